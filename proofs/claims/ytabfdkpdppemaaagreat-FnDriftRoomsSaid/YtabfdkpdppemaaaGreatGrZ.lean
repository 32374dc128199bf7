/-
 ShiftSpot of the program and of the reference: one function of mathematics.
-/
import Derived.Deep.RegionHeld3
import Derived.Test.YtabfdkpdppemaaaGreatGrE
set_option maxHeartbeats 4000000
set_option maxRecDepth 100000
namespace Go.Proofs.YtabfdkpdppemaaaGreat
open Go.RowKit
def Zn (s:Xz) (dx dy:Int):Option Xz :=
 if XA s=true/\ZH dx (-2000) 2000=true/\ZH dy (-2000) 2000=true then Yq (s.x+dx*s.d) (s.y+dy*s.d) s.d else none
structure SB (s:Xz) (dx dy:Int):Prop where
 d:1<=s.d/\s.d<=5000000000
 x : -5000000000000<=s.x/\s.x<=5000000000000
 y : -5000000000000<=s.y/\s.y<=5000000000000
 m : -10000000000000<=dx*s.d/\dx*s.d<=10000000000000
 n : -10000000000000<=dy*s.d/\dy*s.d<=10000000000000
theorem mulD {a d:Int} (ha : -2000<=a/\a<=2000) (hd:1<=d/\d<=5000000000) : -10000000000000<=a*d/\a*d<=10000000000000:=by
 have h1:(2000-a)*d ≥ 0:=Int.mul_nonneg (by omega) (by omega);have h2:(a+2000)*d ≥ 0:=Int.mul_nonneg (by omega) (by omega);rw [Int.sub_mul] at h1;rw [Int.add_mul] at h2;omega
theorem shiftBounds {s:Xz} {dx dy:Int} (hs:XA s=true) (h1:ZH dx (-2000) 2000=true) (h2:ZH dy (-2000) 2000=true):SB s dx dy:=by
 obtain ⟨⟨d1,d2⟩,⟨x1,x2⟩,⟨y1,y2⟩,_⟩:=ZQ.1 hs;exact ⟨⟨d1,d2⟩,⟨by omega,by omega⟩,⟨by omega,by omega⟩,mulD (XY.1 h1) ⟨d1,d2⟩,mulD (XY.1 h2) ⟨d1,d2⟩⟩
theorem isStep_c (a:Int) (w:World) :
 Calls Tryz.prog 138 #[.int .i64 a] w λ e w'=>e=.returned (.bool (ZH a (-2000) 2000))/\w=w':=by
 go_enter Tryz.func138,Tryz.ntmps138
 go_wp2_with (first|(go_at_call 102;refine (YC _ _ _ _).mono ?_;rintro e w' ⟨rfl,rfl⟩))
 go_ret
 exact ⟨rfl,rfl⟩
theorem KS (s:Xz) (dx dy:Int) (w:World) (hs:s.In) :
 Calls Tryz.prog 53 #[Y4 s,.int .i64 dx,.int .i64 dy] w λ e w'=>e=.returned (Y1 (Zn s dx dy))/\Below w.heap.size w w':=by
 have k1:=λ W=>iSpotOk_c s W hs;have k2:=λ W=>isStep_c dx W;have k3:=λ W=>isStep_c dy W;have hpb:=λ h1 h2 h3=>@shiftBounds s dx dy h1 h2 h3;have hfin:Hid (Zn s dx dy=if XA s=true/\ZH dx (-2000) 2000=true/\ZH dy (-2000) 2000=true then Yq (s.x+dx*s.d) (s.y+dy*s.d) s.d else none):=rfl;have HA:=XR.new w #[.int .i64 s.x,.int .i64 s.y,.int .i64 s.d] 30;have HB:=XR.new (w.alloc (.cells #[.int .i64 s.x,.int .i64 s.y,.int .i64 s.d] 30)) #[.int .i64 0,.int .i64 0,.int .i64 0] 30;simp only [World.size_alloc] at HB;generalize XA s=b1 at *;generalize ZH dx (-2000) 2000=b2 at *;generalize ZH dy (-2000) 2000=b3 at *;by_cases hall:b1=true/\b2=true/\b3=true
 ·obtain ⟨rfl,rfl,rfl⟩:=hall;obtain ⟨⟨d1,d2⟩,⟨x1,x2⟩,⟨y1,y2⟩,⟨m1,m2⟩,⟨n1,n2⟩⟩:=hpb rfl rfl rfl;have k4:=λ W=>iSpotOf_c (s.x+dx*s.d) (s.y+dy*s.d) s.d W ⟨by omega,by omega⟩ ⟨by omega,by omega⟩ ⟨by omega,by omega⟩;have hfin2:Hid (Zn s dx dy=Yq (s.x+dx*s.d) (s.y+dy*s.d) s.d):=hfin.out;rw [hfin2.out];clear hfin hfin2 hpb;generalize Yq (s.x+dx*s.d) (s.y+dy*s.d) s.d=r at *;cases r;all_goals
   go_enter Tryz.func53,Tryz.ntmps53
   go_wp2_with (fail)
   refine (k1 _).mono ?_;rintro e w1 ⟨rfl,hb1⟩;have H1:=HB.below hb1;have H2:=(HA.alloc _).below hb1;have hbw:=Xf (Xc (Xc (Below.refl w.heap.size w) _) _) hb1;obtain ⟨cH2_0,fH2_0⟩:=H2.2 0 _ rfl;obtain ⟨cH2_1,fH2_1⟩:=H2.2 1 _ rfl;obtain ⟨cH2_2,fH2_2⟩:=H2.2 2 _ rfl;go_wp2_with (fail)
   refine (k2 _).mono ?_;rintro e w' ⟨rfl,rfl⟩;go_wp2_with (fail)
   refine (k3 _).mono ?_;rintro e w' ⟨rfl,rfl⟩;go_wp2_with (fail)
   refine (k4 _).mono ?_;rintro e w2 ⟨rfl,hb2⟩;have H3:=H1.below hb2;have hlt3:=H3.1;have hbw2:=Xf hbw hb2;clear cH2_0 cH2_1 cH2_2 fH2_0 fH2_1 fH2_2;obtain ⟨cH3_0,fH3_0⟩:=H3.2 0 _ rfl;obtain ⟨cH3_1,fH3_1⟩:=H3.2 1 _ rfl;obtain ⟨cH3_2,fH3_2⟩:=H3.2 2 _ rfl;simp only [Y1];go_wp2
   refine bodyPost_ret (v:=.tuple #[.agg #[_,_,_],.bool _]) (by simp [results,Tryz.results53,go_sem, *]) rfl ⟨rfl, ?_⟩;exact Xi
 ·have hn:Hid (Zn s dx dy=none):=by have:=hfin.out;rw [if_neg hall] at this;exact this
  rw [hn.out];clear hfin hn hpb;have hall':=hall;clear hall;cases b1
  ·go_enter Tryz.func53,Tryz.ntmps53
   go_wp2_with (fail)
   refine (k1 _).mono ?_;rintro e w1 ⟨rfl,hb1⟩;have H1:=HB.below hb1;have hlt:=H1.1;have hbw:=Xf (Xc (Xc (Below.refl w.heap.size w) _) _) hb1;obtain ⟨cH1_0,fH1_0⟩:=H1.2 0 _ rfl;obtain ⟨cH1_1,fH1_1⟩:=H1.2 1 _ rfl;obtain ⟨cH1_2,fH1_2⟩:=H1.2 2 _ rfl;go_wp2
   refine bodyPost_ret (v:=.tuple #[.agg #[.int .i64 0,.int .i64 0,.int .i64 0],.bool false]) (by simp [results,Tryz.results53,go_sem, *]) rfl ⟨rfl, ?_⟩;exact Xi
  ·cases b2
   ·go_enter Tryz.func53,Tryz.ntmps53
    go_wp2_with (fail)
    refine (k1 _).mono ?_;rintro e w1 ⟨rfl,hb1⟩;have H1:=HB.below hb1;have hlt:=H1.1;have hbw:=Xf (Xc (Xc (Below.refl w.heap.size w) _) _) hb1;obtain ⟨cH1_0,fH1_0⟩:=H1.2 0 _ rfl;obtain ⟨cH1_1,fH1_1⟩:=H1.2 1 _ rfl;obtain ⟨cH1_2,fH1_2⟩:=H1.2 2 _ rfl;go_wp2_with (fail)
    refine (k2 _).mono ?_;rintro e w' ⟨rfl,rfl⟩;go_wp2
    refine bodyPost_ret (v:=.tuple #[.agg #[.int .i64 0,.int .i64 0,.int .i64 0],.bool false]) (by simp [results,Tryz.results53,go_sem, *]) rfl ⟨rfl, ?_⟩;exact Xi
   ·cases b3
    ·go_enter Tryz.func53,Tryz.ntmps53
     go_wp2_with (fail)
     refine (k1 _).mono ?_;rintro e w1 ⟨rfl,hb1⟩;have H1:=HB.below hb1;have hlt:=H1.1;have hbw:=Xf (Xc (Xc (Below.refl w.heap.size w) _) _) hb1;obtain ⟨cH1_0,fH1_0⟩:=H1.2 0 _ rfl;obtain ⟨cH1_1,fH1_1⟩:=H1.2 1 _ rfl;obtain ⟨cH1_2,fH1_2⟩:=H1.2 2 _ rfl;go_wp2_with (fail)
     refine (k2 _).mono ?_;rintro e w' ⟨rfl,rfl⟩;go_wp2_with (fail)
     refine (k3 _).mono ?_;rintro e w' ⟨rfl,rfl⟩;go_wp2
     refine bodyPost_ret (v:=.tuple #[.agg #[.int .i64 0,.int .i64 0,.int .i64 0],.bool false]) (by simp [results,Tryz.results53,go_sem, *]) rfl ⟨rfl, ?_⟩;exact Xi
    ·exact absurd hall' (by simp)
def sh (s:Xz) (dx dy:Int):Nat->Option Xz
 | 0=>Zn s (-dx) (-dy)
 | 1=>Zn s dx (-dy)
 | 2=>Zn s dx dy
 | _=>Zn s (-dx) dy
def shs (s:Xz) (dx dy:Int):Nat->Option (List Xz)
 | 0=>some []
 | k+1=>match shs s dx dy k,sh s dx dy k with
  | some l,some t=>some (l++[t])
  | _,_=>none
def Xa (s:Xz) (dx dy:Int):Option (List Xz) :=
 if ZH dx 0 100=true/\ZH dy 0 100=true then shs s dx dy 4 else none
theorem shs_succ {s:Xz} {dx dy:Int} {k:Nat} {l:List Xz} {t:Xz} (h1:shs s dx dy k=some l) (h2:sh s dx dy k=some t):shs s dx dy (k+1)=some (l++[t]):=by
 rw [shs,h1,h2]
theorem shs_fail {s:Xz} {dx dy:Int} {k:Nat} (h:sh s dx dy k=none):shs s dx dy (k+1)=none:=by
 rw [shs,h];split<;>simp_all
theorem shs_up {s:Xz} {dx dy:Int} {k:Nat} (h:shs s dx dy k=none):shs s dx dy (k+1)=none:=by
 rw [shs,h]
theorem shs_none {s:Xz} {dx dy:Int} {k:Nat} (h:sh s dx dy k=none) (hk:k<4):shs s dx dy 4=none:=by
 have h1:=shs_fail h;obtain rfl|rfl|rfl|rfl:k=0∨k=1∨k=2∨k=3:=by omega
 ·exact shs_up (shs_up (shs_up h1))
 ·exact shs_up (shs_up h1)
 ·exact shs_up h1
 ·exact h1
theorem shs_len {s:Xz} {dx dy:Int}:∀ {k:Nat} {l:List Xz},shs s dx dy k=some l->l.length=k
 | 0,l,h=>by rw [shs] at h;injection h with h;subst h;rfl
 | k+1,l,h=>by
  rw [shs] at h;cases h1:shs s dx dy k with
  | none=>rw [h1] at h;simp at h
  | some m =>
   cases h2:sh s dx dy k with
   | none=>rw [h1,h2] at h;simp at h
   | some t =>
    rw [h1,h2] at h;injection h with h
    subst h;rw [List.length_append,shs_len h1];rfl
theorem spotC_one (t:Xz):∀ u∈Yx t,u.oneCell'=true:=by
 intro u hu;simp [Yx] at hu;rcases hu with rfl|rfl|rfl<;>rfl
theorem Je (a:Int) (w:World) :
 Calls Tryz.prog 133 #[.int .i64 a] w λ e w'=>e=.returned (.bool (ZH a 0 100))/\w=w':=by
 go_enter Tryz.func133,Tryz.ntmps133
 go_wp2_with (first|(go_at_call 102;refine (YC _ _ _ _).mono ?_;rintro e w' ⟨rfl,rfl⟩))
 go_ret
 exact ⟨rfl,rfl⟩
theorem KT (s:Xz) (dx dy:Int) (w:World) (hs:s.In) :
 Calls Tryz.prog 50 #[Y4 s,.int .i64 dx,.int .i64 dy] w λ e w'=>∃ v,e=.returned (.tuple #[v,.bool (Xa s dx dy).isSome])/\XI 30 3 Yx w' w.heap.size v ((Xa s dx dy).getD [])/\Below w.heap.size w w':=by
 obtain ⟨i0,hi0,hz0,hz1,hz2⟩:=info_parts (show (Tryz.prog.info? 30).map (λ i=>(i.zero,i.size,i.bytes))=some (some (.agg #[.int .i64 0,.int .i64 0,.int .i64 0]),3,24) by kernel_rfl);by_cases hall:ZH dx 0 100=true/\ZH dy 0 100=true
 ·obtain ⟨e1,e2⟩:=hall;have hfin:Hid (Xa s dx dy=shs s dx dy 4):=by show _=_;rw [Xa,if_pos ⟨e1,e2⟩]
  obtain ⟨r1,r2⟩:=XY.1 e1;obtain ⟨r3,r4⟩:=XY.1 e2;have k1:=λ W=>Je dx W;have k2:=λ W=>Je dy W;rw [e1] at k1;rw [e2] at k2;clear e1 e2;obtain ⟨W0,hW0⟩:∃ W0,W0=w.alloc (.cells #[.int .i64 s.x,.int .i64 s.y,.int .i64 s.d] 30):=⟨_,rfl⟩;have HA:XR W0 w.heap.size [.int .i64 s.x,.int .i64 s.y,.int .i64 s.d]:=hW0 ▸ XR.new w #[.int .i64 s.x,.int .i64 s.y,.int .i64 s.d] 30;have BW:Below w.heap.size w W0:=hW0 ▸ Xc (Below.refl w.heap.size w) _;have HW:Hid (W0=w.alloc (.cells #[.int .i64 s.x,.int .i64 s.y,.int .i64 s.d] 30)):=hW0;clear hW0;go_enter Tryz.func50,Tryz.ntmps50
  go_wp2_with (fail)
  refine (k1 _).mono ?_;rintro e w' ⟨rfl,rfl⟩;go_wp2_with (fail)
  refine (k2 _).mono ?_;rintro e w' ⟨rfl,rfl⟩;go_wp2
  go_loopw [8,10,11,12,38] (λ v _ _ _ i wr=>∃ k:Nat,k<=4/\i=.int .i64 k/\∃ l,shs s dx dy k=some l/\XI 30 3 Yx wr W0.heap.size v l/\Below W0.heap.size W0 wr) (λ _ _ _ _ i _=>4-(intOf i).toNat)
  case atStart=>exact ⟨0,by omega,rfl,[],rfl,⟨_,_,rfl,World.ownsRow_nil _ _ _ _⟩,HW.out ▸ Below.refl _ _⟩
  case round =>
  obtain ⟨k,hk,rfl,l,hl,hnew,hbr⟩:=hrel;have HB:=HA.below hbr;have hltB:=HB.1;obtain rfl|rfl|rfl|rfl|rfl:k=0∨k=1∨k=2∨k=3∨k=4:=by omega
  ·have hix:∀ W:World,(Instr.index 191 (.agg #[.int .i64 (-dx),.int .i64 (-dy),.int .i64 dx,.int .i64 (-dy),.int .i64 dx,.int .i64 dy,.int .i64 (-dx),.int .i64 dy]) (.int .i64 0)).run Tryz.prog W=.ok (.agg #[.int .i64 (-dx),.int .i64 (-dy)]) W:=by
    intro W;first|rfl|kernel_rfl|(simp [Instr.index];done)
   have cK:∀ W,Calls Tryz.prog 53 #[Y4 s,.int .i64 (-dx),.int .i64 (-dy)] W λ e w'=>e=.returned (Y1 (sh s dx dy 0))/\Below W.heap.size W w':=λ W=>KS s _ _ W hs;have hlen:=shs_len hl;obtain ⟨cB_0,fB_0⟩:=HB.2 0 _ rfl;obtain ⟨cB_1,fB_1⟩:=HB.2 1 _ rfl;obtain ⟨cB_2,fB_2⟩:=HB.2 2 _ rfl;cases hsk:sh s dx dy 0 with
   | none =>
    rw [hsk] at cK;have hno:Hid (Xa s dx dy=none):=hfin.out.trans (shs_none hsk (by omega));clear hsk hfin hl;go_wp2_with (fail)
    refine (cK _).mono ?_;rintro e w3 ⟨rfl,hb3⟩;have B3:=Xf (Xc hbr _) hb3;have hlt3:=(HB.alloc _).below hb3 |>.1
    simp only [Y1];go_wp2
    refine bodyPost_ret (v:=.tuple #[.slice none 0 0,.bool false]) (by simp [results,Tryz.results50,go_sem]) rfl ?_;refine ⟨_,by rw [hno.out];rfl,by rw [hno.out];exact ⟨_,_,rfl,World.ownsRow_nil _ _ _ _⟩, ?_⟩;exact (Xc (BW.trans (B3.mono BW.size)) _)
   | some t =>
    rw [hsk] at cK;have hl2:Hid (shs s dx dy (0+1)=some (l++[t])):=shs_succ hl hsk;clear hsk;go_wp2_with (fail)
    refine (cK _).mono ?_;rintro e w3 ⟨rfl,hb3⟩;have B3:=Xf (Xc hbr _) hb3;have hlt3:=(HB.alloc _).below hb3 |>.1
    simp only [Y1];have N3:=(hnew.alloc _).below hb3 Xt;clear hnew;go_wp2_with (at_builtin;refine Zh Kj _ rfl _ _ 73 rfl _ i0 _ 24 Tryz.underlying73 hi0 hz0 hz1 hz2 rfl (by decide) rfl ((N3.alloc _).alloc _) _ 1 rfl t ?c1 (spotC_one t) (Xc (Xc B3 _) _) (Xc (Xc B3 _) _).size (by omega) (by decide) ?_)
    case c1 =>
     intro j u hj;match j,hj with
     | 0,hj=>simp [Yx] at hj;subst hj;simp [Addr.add]
     | 1,hj=>simp [Yx] at hj;subst hj;simp [Addr.add]
     | 2,hj=>simp [Yx] at hj;subst hj;simp [Addr.add]
     | (n+3),hj=>simp [Yx] at hj
    ·intro v' w4 hn4 hb4;clear cB_0 cB_1 cB_2 fB_0 fB_1 fB_2 B3 hb3 hbr N3;go_wp2
     go_roundw
     case rel=>exact ⟨1,by omega,by go_num,_,hl2.out,hn4,hb4⟩
     case measure=>simp [intOf]
  ·have hix:∀ W:World,(Instr.index 191 (.agg #[.int .i64 (-dx),.int .i64 (-dy),.int .i64 dx,.int .i64 (-dy),.int .i64 dx,.int .i64 dy,.int .i64 (-dx),.int .i64 dy]) (.int .i64 1)).run Tryz.prog W=.ok (.agg #[.int .i64 dx,.int .i64 (-dy)]) W:=by
    intro W;first|rfl|kernel_rfl|(simp [Instr.index];done)
   have cK:∀ W,Calls Tryz.prog 53 #[Y4 s,.int .i64 dx,.int .i64 (-dy)] W λ e w'=>e=.returned (Y1 (sh s dx dy 1))/\Below W.heap.size W w':=λ W=>KS s _ _ W hs;have hlen:=shs_len hl;obtain ⟨cB_0,fB_0⟩:=HB.2 0 _ rfl;obtain ⟨cB_1,fB_1⟩:=HB.2 1 _ rfl;obtain ⟨cB_2,fB_2⟩:=HB.2 2 _ rfl;cases hsk:sh s dx dy 1 with
   | none =>
    rw [hsk] at cK;have hno:Hid (Xa s dx dy=none):=hfin.out.trans (shs_none hsk (by omega));clear hsk hfin hl;go_wp2_with (fail)
    refine (cK _).mono ?_;rintro e w3 ⟨rfl,hb3⟩;have B3:=Xf (Xc hbr _) hb3;have hlt3:=(HB.alloc _).below hb3 |>.1
    simp only [Y1];go_wp2
    refine bodyPost_ret (v:=.tuple #[.slice none 0 0,.bool false]) (by simp [results,Tryz.results50,go_sem]) rfl ?_;refine ⟨_,by rw [hno.out];rfl,by rw [hno.out];exact ⟨_,_,rfl,World.ownsRow_nil _ _ _ _⟩, ?_⟩;exact (Xc (BW.trans (B3.mono BW.size)) _)
   | some t =>
    rw [hsk] at cK;have hl2:Hid (shs s dx dy (1+1)=some (l++[t])):=shs_succ hl hsk;clear hsk;go_wp2_with (fail)
    refine (cK _).mono ?_;rintro e w3 ⟨rfl,hb3⟩;have B3:=Xf (Xc hbr _) hb3;have hlt3:=(HB.alloc _).below hb3 |>.1
    simp only [Y1];have N3:=(hnew.alloc _).below hb3 Xt;clear hnew;go_wp2_with (at_builtin;refine Zh Kj _ rfl _ _ 73 rfl _ i0 _ 24 Tryz.underlying73 hi0 hz0 hz1 hz2 rfl (by decide) rfl ((N3.alloc _).alloc _) _ 1 rfl t ?c1 (spotC_one t) (Xc (Xc B3 _) _) (Xc (Xc B3 _) _).size (by omega) (by decide) ?_)
    case c1 =>
     intro j u hj;match j,hj with
     | 0,hj=>simp [Yx] at hj;subst hj;simp [Addr.add]
     | 1,hj=>simp [Yx] at hj;subst hj;simp [Addr.add]
     | 2,hj=>simp [Yx] at hj;subst hj;simp [Addr.add]
     | (n+3),hj=>simp [Yx] at hj
    ·intro v' w4 hn4 hb4;clear cB_0 cB_1 cB_2 fB_0 fB_1 fB_2 B3 hb3 hbr N3;go_wp2
     go_roundw
     case rel=>exact ⟨2,by omega,by go_num,_,hl2.out,hn4,hb4⟩
     case measure=>simp [intOf]
  ·have hix:∀ W:World,(Instr.index 191 (.agg #[.int .i64 (-dx),.int .i64 (-dy),.int .i64 dx,.int .i64 (-dy),.int .i64 dx,.int .i64 dy,.int .i64 (-dx),.int .i64 dy]) (.int .i64 2)).run Tryz.prog W=.ok (.agg #[.int .i64 dx,.int .i64 dy]) W:=by
    intro W;first|rfl|kernel_rfl|(simp [Instr.index];done)
   have cK:∀ W,Calls Tryz.prog 53 #[Y4 s,.int .i64 dx,.int .i64 dy] W λ e w'=>e=.returned (Y1 (sh s dx dy 2))/\Below W.heap.size W w':=λ W=>KS s _ _ W hs;have hlen:=shs_len hl;obtain ⟨cB_0,fB_0⟩:=HB.2 0 _ rfl;obtain ⟨cB_1,fB_1⟩:=HB.2 1 _ rfl;obtain ⟨cB_2,fB_2⟩:=HB.2 2 _ rfl;cases hsk:sh s dx dy 2 with
   | none =>
    rw [hsk] at cK;have hno:Hid (Xa s dx dy=none):=hfin.out.trans (shs_none hsk (by omega));clear hsk hfin hl;go_wp2_with (fail)
    refine (cK _).mono ?_;rintro e w3 ⟨rfl,hb3⟩;have B3:=Xf (Xc hbr _) hb3;have hlt3:=(HB.alloc _).below hb3 |>.1
    simp only [Y1];go_wp2
    refine bodyPost_ret (v:=.tuple #[.slice none 0 0,.bool false]) (by simp [results,Tryz.results50,go_sem]) rfl ?_;refine ⟨_,by rw [hno.out];rfl,by rw [hno.out];exact ⟨_,_,rfl,World.ownsRow_nil _ _ _ _⟩, ?_⟩;exact (Xc (BW.trans (B3.mono BW.size)) _)
   | some t =>
    rw [hsk] at cK;have hl2:Hid (shs s dx dy (2+1)=some (l++[t])):=shs_succ hl hsk;clear hsk;go_wp2_with (fail)
    refine (cK _).mono ?_;rintro e w3 ⟨rfl,hb3⟩;have B3:=Xf (Xc hbr _) hb3;have hlt3:=(HB.alloc _).below hb3 |>.1
    simp only [Y1];have N3:=(hnew.alloc _).below hb3 Xt;clear hnew;go_wp2_with (at_builtin;refine Zh Kj _ rfl _ _ 73 rfl _ i0 _ 24 Tryz.underlying73 hi0 hz0 hz1 hz2 rfl (by decide) rfl ((N3.alloc _).alloc _) _ 1 rfl t ?c1 (spotC_one t) (Xc (Xc B3 _) _) (Xc (Xc B3 _) _).size (by omega) (by decide) ?_)
    case c1 =>
     intro j u hj;match j,hj with
     | 0,hj=>simp [Yx] at hj;subst hj;simp [Addr.add]
     | 1,hj=>simp [Yx] at hj;subst hj;simp [Addr.add]
     | 2,hj=>simp [Yx] at hj;subst hj;simp [Addr.add]
     | (n+3),hj=>simp [Yx] at hj
    ·intro v' w4 hn4 hb4;clear cB_0 cB_1 cB_2 fB_0 fB_1 fB_2 B3 hb3 hbr N3;go_wp2
     go_roundw
     case rel=>exact ⟨3,by omega,by go_num,_,hl2.out,hn4,hb4⟩
     case measure=>simp [intOf]
  ·have hix:∀ W:World,(Instr.index 191 (.agg #[.int .i64 (-dx),.int .i64 (-dy),.int .i64 dx,.int .i64 (-dy),.int .i64 dx,.int .i64 dy,.int .i64 (-dx),.int .i64 dy]) (.int .i64 3)).run Tryz.prog W=.ok (.agg #[.int .i64 (-dx),.int .i64 dy]) W:=by
    intro W;first|rfl|kernel_rfl|(simp [Instr.index];done)
   have cK:∀ W,Calls Tryz.prog 53 #[Y4 s,.int .i64 (-dx),.int .i64 dy] W λ e w'=>e=.returned (Y1 (sh s dx dy 3))/\Below W.heap.size W w':=λ W=>KS s _ _ W hs;have hlen:=shs_len hl;obtain ⟨cB_0,fB_0⟩:=HB.2 0 _ rfl;obtain ⟨cB_1,fB_1⟩:=HB.2 1 _ rfl;obtain ⟨cB_2,fB_2⟩:=HB.2 2 _ rfl;cases hsk:sh s dx dy 3 with
   | none =>
    rw [hsk] at cK;have hno:Hid (Xa s dx dy=none):=hfin.out.trans (shs_none hsk (by omega));clear hsk hfin hl;go_wp2_with (fail)
    refine (cK _).mono ?_;rintro e w3 ⟨rfl,hb3⟩;have B3:=Xf (Xc hbr _) hb3;have hlt3:=(HB.alloc _).below hb3 |>.1
    simp only [Y1];go_wp2
    refine bodyPost_ret (v:=.tuple #[.slice none 0 0,.bool false]) (by simp [results,Tryz.results50,go_sem]) rfl ?_;refine ⟨_,by rw [hno.out];rfl,by rw [hno.out];exact ⟨_,_,rfl,World.ownsRow_nil _ _ _ _⟩, ?_⟩;exact (Xc (BW.trans (B3.mono BW.size)) _)
   | some t =>
    rw [hsk] at cK;have hl2:Hid (shs s dx dy (3+1)=some (l++[t])):=shs_succ hl hsk;clear hsk;go_wp2_with (fail)
    refine (cK _).mono ?_;rintro e w3 ⟨rfl,hb3⟩;have B3:=Xf (Xc hbr _) hb3;have hlt3:=(HB.alloc _).below hb3 |>.1
    simp only [Y1];have N3:=(hnew.alloc _).below hb3 Xt;clear hnew;go_wp2_with (at_builtin;refine Zh Kj _ rfl _ _ 73 rfl _ i0 _ 24 Tryz.underlying73 hi0 hz0 hz1 hz2 rfl (by decide) rfl ((N3.alloc _).alloc _) _ 1 rfl t ?c1 (spotC_one t) (Xc (Xc B3 _) _) (Xc (Xc B3 _) _).size (by omega) (by decide) ?_)
    case c1 =>
     intro j u hj;match j,hj with
     | 0,hj=>simp [Yx] at hj;subst hj;simp [Addr.add]
     | 1,hj=>simp [Yx] at hj;subst hj;simp [Addr.add]
     | 2,hj=>simp [Yx] at hj;subst hj;simp [Addr.add]
     | (n+3),hj=>simp [Yx] at hj
    ·intro v' w4 hn4 hb4;clear cB_0 cB_1 cB_2 fB_0 fB_1 fB_2 B3 hb3 hbr N3;go_wp2
     go_roundw
     case rel=>exact ⟨4,by omega,by go_num,_,hl2.out,hn4,hb4⟩
     case measure=>simp [intOf]
  ·have hy:Hid (Xa s dx dy=some l):=hfin.out.trans hl;clear hl hfin HB;have hnew':=hnew;obtain ⟨A8,c8,rfl,_⟩:=hnew';go_wp2
   refine bodyPost_ret (v:=.tuple #[.slice A8 l.length c8,.bool true]) (by simp [results,Tryz.results50,go_sem]) rfl ?_;exact ⟨_,by rw [hy.out];rfl,by rw [hy.out];exact hnew.mono BW.size,BW.trans (hbr.mono BW.size)⟩
 ·have hno:Hid (Xa s dx dy=none):=by show _=_;rw [Xa,if_neg hall]
  have k1:=λ W=>Je dx W;have k2:=λ W=>Je dy W;generalize ZH dx 0 100=b1 at *;generalize ZH dy 0 100=b2 at *;cases b1
  ·clear hall;go_enter Tryz.func50,Tryz.ntmps50
   go_wp2_with (fail)
   refine (k1 _).mono ?_;rintro e w' ⟨rfl,rfl⟩;go_wp2
   refine bodyPost_ret (v:=.tuple #[.slice none 0 0,.bool false]) (by simp [results,Tryz.results50,go_sem]) rfl ?_;refine ⟨_,by rw [hno.out];rfl,by rw [hno.out];exact ⟨_,_,rfl,World.ownsRow_nil _ _ _ _⟩, ?_⟩;exact Xi
  ·cases b2
   ·clear hall;go_enter Tryz.func50,Tryz.ntmps50
    go_wp2_with (fail)
    refine (k1 _).mono ?_;rintro e w' ⟨rfl,rfl⟩;go_wp2_with (fail)
    refine (k2 _).mono ?_;rintro e w' ⟨rfl,rfl⟩;go_wp2
    refine bodyPost_ret (v:=.tuple #[.slice none 0 0,.bool false]) (by simp [results,Tryz.results50,go_sem]) rfl ?_;refine ⟨_,by rw [hno.out];rfl,by rw [hno.out];exact ⟨_,_,rfl,World.ownsRow_nil _ _ _ _⟩, ?_⟩;exact Xi
   ·exact absurd ⟨rfl,rfl⟩ hall
end Go.Proofs.YtabfdkpdppemaaaGreat
