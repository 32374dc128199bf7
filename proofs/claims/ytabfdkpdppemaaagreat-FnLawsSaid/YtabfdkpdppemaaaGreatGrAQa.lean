/-
 Words on memory that the contracts of this claim use: a slice that reads as a list of structs, a slice of the call's own.
 Conditions: none.
-/
import Derived.Test.YtabfdkpdppemaaaGreatRows
import Derived.WalkKit
import Derived.WalkSpells
import Derived.WalkLawsBesides
import Derived.Deep.Draws
import Derived.Lib.Hide
import Derived.Deep.Slices
import Derived.Deep.Fields
import Derived.ChangeSame
import Derived.ArgAppend
import Derived.Deep.RegionHeld3
import Derived.Deep.RegionWith
import Derived.Test.YtabfdkpdppemaaaGreatGrM
set_option maxHeartbeats 2000000
namespace Go.Proofs.YtabfdkpdppemaaaGreat
open Go.RowKit
section
variable {α:Type} {sz:Nat} {enc:α->List Value} {w w':World} {A:Option Addr} {xs:List α}
end
section
variable {α:Type} {T sz:Nat} {enc:α->List Value} {w w':World} {v:Value} {xs:List α} {base:Nat}
end
section
variable {α:Type} {T sz:Nat} {enc:α->List Value} {w w':World} {g N k:Nat} {xs:List α}
end
section
variable {w w':World} {g:Nat} {vs:List Value}
end
abbrev pieceV (x:Yu):Value:=.agg #[.int .i64 x.a,.int .i64 x.b,.int .i64 x.c,.int .i64 x.d]
theorem gcd4 (a b c d:Int):Xl [a,b,c,d]=Nat.gcd (Nat.gcd (Nat.gcd a.natAbs b.natAbs) c.natAbs) d.natAbs:=by simp [Xl]
def Zs (q:Yu):Bool:=Z7 q.d 1 1000000000000&&Z7 q.a (-1000000000000) 1000000000000&&Z7 q.b (-1000000000000) 1000000000000&&Z7 q.c (-1000000000000) 1000000000000&&decide (Xl [q.a,q.b,q.c,q.d]=1)
theorem pieceOk_iff {q:Yu}:Zs q=true ↔ (1<=q.d/\q.d<=1000000000000)/\(-1000000000000<=q.a/\q.a<=1000000000000)/\(-1000000000000<=q.b/\q.b<=1000000000000)/\(-1000000000000<=q.c/\q.c<=1000000000000)/\Xl [q.a,q.b,q.c,q.d]=1:=by
 simp only [Zs,Bool.and_eq_true,YX,decide_eq_true_eq,and_assoc]
def JE (q:Yu) (s:XQ):X5:=if 1000<s.d then Y3 else X7 (q.a*s.x+q.b*s.y+q.c*s.d) (q.d*s.d)
def Xo (q:Yu) (s:XQ):X5:=if Zs q=true/\Xv s=true then JE q s else Y3
abbrev lawV (x:Law) (a:LawA):Value:=.agg #[.slice a.lows.A (List.length x.lows) a.lows.c,.slice a.highs.A (List.length x.highs) a.highs.c]
def lawLen (x:Law):Nat:=List.length x.lows+List.length x.highs
structure LawIn (x:Law):Prop where
 lows:∀ y∈x.lows,Yu.In y
 highs:∀ y∈x.highs,Yu.In y
theorem isPart_c (a:Int) (w:World) :
 Calls Tryz.prog 214 #[.int .i64 a] w λ e w'=>e=.returned (.bool (Z7 a (-1000000000000) 1000000000000))/\w=w':=by
 go_enter Tryz.func214,Tryz.ntmps214
 go_wp2_with (first|(go_at_call 102;refine (Ye _ _ _ _).mono ?_;rintro e w' ⟨rfl,rfl⟩))
 go_ret
 exact ⟨rfl,rfl⟩
theorem iPieceOk_c (q:Yu) (w:World) (hq:q.In) :
 Calls Tryz.prog 145 #[pieceV q] w λ e w'=>e=.returned (.bool (Zs q))/\Below w.heap.size w w':=by
 cases e0:Z7 q.d 1 1000000000000
 ·go_enter Tryz.func145,Tryz.ntmps145
  go_wp2_with (first|(go_at_call 214;refine (isPart_c _ _).mono ?_;rintro e w' ⟨rfl,rfl⟩)|(go_at_call 102;refine (Ye _ _ _ _).mono ?_;rintro e w' ⟨rfl,rfl⟩))
  go_ret
  refine ⟨Xm (by simp [Zs,e0]), ?_⟩;exact Xp
 ·cases e1:Z7 q.a (-1000000000000) 1000000000000
  ·go_enter Tryz.func145,Tryz.ntmps145
   go_wp2_with (first|(go_at_call 214;refine (isPart_c _ _).mono ?_;rintro e w' ⟨rfl,rfl⟩)|(go_at_call 102;refine (Ye _ _ _ _).mono ?_;rintro e w' ⟨rfl,rfl⟩))
   go_ret
   refine ⟨Xm (by simp [Zs,e0,e1]), ?_⟩;exact Xp
  ·cases e2:Z7 q.b (-1000000000000) 1000000000000
   ·go_enter Tryz.func145,Tryz.ntmps145
    go_wp2_with (first|(go_at_call 214;refine (isPart_c _ _).mono ?_;rintro e w' ⟨rfl,rfl⟩)|(go_at_call 102;refine (Ye _ _ _ _).mono ?_;rintro e w' ⟨rfl,rfl⟩))
    go_ret
    refine ⟨Xm (by simp [Zs,e0,e1,e2]), ?_⟩;exact Xp
   ·cases e3:Z7 q.c (-1000000000000) 1000000000000
    ·go_enter Tryz.func145,Tryz.ntmps145
     go_wp2_with (first|(go_at_call 214;refine (isPart_c _ _).mono ?_;rintro e w' ⟨rfl,rfl⟩)|(go_at_call 102;refine (Ye _ _ _ _).mono ?_;rintro e w' ⟨rfl,rfl⟩))
     go_ret
     refine ⟨Xm (by simp [Zs,e0,e1,e2,e3]), ?_⟩;exact Xp
    ·have hall:∀ n∈[q.a,q.b,q.c,q.d],Zi n:=by simpa [Yu.In] using hq
     have hfin:Hid (Zs q=decide (Xl [q.a,q.b,q.c,q.d]=1)):=by simp [Hid,Zs,e0,e1,e2,e3]
     have hg:=Jw (some ⟨w.heap.size+1,0,none⟩) [q.a,q.b,q.c,q.d] 4 _ (by simp) hall (sl_new_at (T:=3) Zd (w.alloc (.cells #[.int .i64 q.a,.int .i64 q.b,.int .i64 q.c,.int .i64 q.d] 109)) [q.a,q.b,q.c,q.d] #[.int .i64 q.a,.int .i64 q.b,.int .i64 q.c,.int .i64 q.d] rfl (by simp));have hle:=gcdAll_le [q.a,q.b,q.c,q.d] hall;generalize Xl [q.a,q.b,q.c,q.d]=G at *;cases e4:((G:Int) == 1);all_goals
      go_enter Tryz.func145,Tryz.ntmps145
      go_wp2_with (first|(go_at_call 214;refine (isPart_c _ _).mono ?_;rintro e w' ⟨rfl,rfl⟩)|(go_at_call 102;refine (Ye _ _ _ _).mono ?_;rintro e w' ⟨rfl,rfl⟩))
      refine hg.mono ?_;rintro e w1 ⟨rfl,hb1⟩;go_wp2
      go_ret
      refine ⟨Xm (by rw [hfin.out,Bool.eq_iff_iff];simp at e4 ⊢;omega), ?_⟩;exact Xf (Xc (Xc bR _) _) hb1
theorem mul_bd_ {a b A B:Int} (ha : -A<=a/\a<=A) (hb : -B<=b/\b<=B) : -(A*B)<=a*b/\a*b<=A*B:=by
 have hA:a.natAbs<=A.natAbs:=by omega
 have hB:b.natAbs<=B.natAbs:=by omega
 have hm:=Nat.mul_le_mul hA hB;rw [<- Int.natAbs_mul,<- Int.natAbs_mul] at hm;have hAB:0<=A*B:=Int.mul_nonneg (by omega) (by omega);omega
abbrev ratV (r:X5) (ok:Bool):Value:=.tuple #[.agg #[.int .i64 r.n,.int .i64 r.d],.bool ok]
theorem ratioOf_In (n d:Int):(X7 n d).In:=by
 by_cases h:Xe (X7 n d)=true
 ·have:=ZO.1 h;exact ⟨⟨by omega,by omega⟩,⟨by omega,by omega⟩⟩
 ·have:X7 n d=Y3:=by
   apply Classical.byContradiction;intro h2;exact h (ratioOf_ok.2 h2)
  rw [this];exact ⟨⟨by decide,by decide⟩,⟨by decide,by decide⟩⟩
structure PB (q:Yu) (s:XQ):Prop where
 a : -1000000000000000000<=q.a*s.x/\q.a*s.x<=1000000000000000000
 b : -1000000000000000000<=q.b*s.y/\q.b*s.y<=1000000000000000000
 c : -1000000000000000<=q.c*s.d/\q.c*s.d<=1000000000000000
 d : -1000000000000000<=q.d*s.d/\q.d*s.d<=1000000000000000
theorem pieceBounds {q:Yu} {s:XQ} (hq:Zs q=true) (hs:Xv s=true) (hd:s.d<=1000):PB q s:=by
 obtain ⟨q1,q2,q3,q4,_⟩:=pieceOk_iff.1 hq;obtain ⟨s1,s2,s3,_⟩:=ZL.1 hs;have a:=mul_bd_ (A:=1000000000000) (B:=1000000) (a:=q.a) (b:=s.x) (by omega) (by omega);have b:=mul_bd_ (A:=1000000000000) (B:=1000000) (a:=q.b) (b:=s.y) (by omega) (by omega);have c:=mul_bd_ (A:=1000000000000) (B:=1000) (a:=q.c) (b:=s.d) (by omega) (by omega);have d:=mul_bd_ (A:=1000000000000) (B:=1000) (a:=q.d) (b:=s.d) (by omega) (by omega);exact ⟨by omega,by omega,by omega,by omega⟩
set_option maxRecDepth 100000 in
theorem ipieceAt_c (q:Yu) (s:XQ) (w:World) (hq:Zs q=true) (hs:Xv s=true) :
 Calls Tryz.prog 146 #[pieceV q,YQ s] w λ e w'=>e=.returned (ratV (JE q s) (Xe (JE q s)))/\Below w.heap.size w w':=by
 by_cases hd:1000<s.d
 ·have hfin:JE q s=Y3:=by simp [JE,hd]
  rw [hfin,ratioOk_zero];go_enter Tryz.func146,Tryz.ntmps146
  go_wp2
  refine bodyPost_ret (v:=.tuple #[.agg #[.int .i64 0,.int .i64 0],.bool false]) (by simp [results,Tryz.results146,go_sem]) rfl ⟨rfl, ?_⟩;exact Xp
 ·have hfin:JE q s=X7 (q.a*s.x+q.b*s.y+q.c*s.d) (q.d*s.d):=by simp [JE,hd]
  rw [hfin];obtain ⟨⟨a1,a2⟩,⟨b1,b2⟩,⟨c1,c2⟩,⟨d1,d2⟩⟩:=pieceBounds hq hs (by omega);have k1:=λ W=>iRatioOf_c (q.a*s.x+q.b*s.y+q.c*s.d) (q.d*s.d) W ⟨by omega,by omega⟩ ⟨by omega,by omega⟩;have hin:=ratioOf_In (q.a*s.x+q.b*s.y+q.c*s.d) (q.d*s.d);have k2:=λ W=>Z3 (X7 (q.a*s.x+q.b*s.y+q.c*s.d) (q.d*s.d)) W hin;clear hfin hin hq hs;revert k1 k2;generalize X7 (q.a*s.x+q.b*s.y+q.c*s.d) (q.d*s.d)=r;generalize Xe r=ok;intro k1 k2;go_enter Tryz.func146,Tryz.ntmps146
  go_wp2_with (fail)
  refine (k1 _).mono ?_;rintro e w1 ⟨rfl,hb1⟩;have H1:Yk w1 (w.heap.size+1+1) [.int .i64 0,.int .i64 0]:=by
   refine Yk.below ?_ hb1;have:=Yk.new ((w.alloc (.cells #[.int .i64 q.a,.int .i64 q.b,.int .i64 q.c,.int .i64 q.d] 109)).alloc (.cells #[.int .i64 s.x,.int .i64 s.y,.int .i64 s.d] 30)) #[.int .i64 0,.int .i64 0] 36;simp only [World.size_alloc] at this;exact this
  have hbw:=Xf (Xc (Xc (Xc (Below.refl w.heap.size w) _) _) _) hb1;have hlt1:=H1.1;go_wp2
  have H2:=H1.alloc (.cells #[.int .i64 r.n,.int .i64 r.d] 36);have hbw2:=Xc hbw (.cells #[.int .i64 r.n,.int .i64 r.d] 36);have H3:=Yk.new w1 #[.int .i64 r.n,.int .i64 r.d] 36;generalize hg6:w1.heap.size=g6 at *;generalize hW:w1.alloc (.cells #[.int .i64 r.n,.int .i64 r.d] 36)=W at *;clear hW hg6 hb1 H1 hbw;obtain ⟨cH2_0,fH2_0⟩:=H2.2 0 _ rfl;obtain ⟨cH2_1,fH2_1⟩:=H2.2 1 _ rfl;obtain ⟨cH3_0,fH3_0⟩:=H3.2 0 _ rfl;obtain ⟨cH3_1,fH3_1⟩:=H3.2 1 _ rfl;have hlt6:=H3.1;have hlt4:=H2.1;have H2':=Lib.hid H2;have H3':=Lib.hid H3;have hne:w.heap.size+1+1≠g6:=by omega
  clear H2 H3;go_region_held3 (λ w'=>w'.cell? ⟨g6,0,none⟩=some (.int .i64 r.n)/\w'.cell? ⟨g6,1,none⟩=some (.int .i64 r.d)) (first|go_keep|(refine ⟨(hb2.cell (p:=⟨g6,0,none⟩) (by simpa [World.setCell] using hlt6)).trans ?_,(hb2.cell (p:=⟨g6,1,none⟩) (by simpa [World.setCell] using hlt6)).trans ?_⟩<;>go_keep))
   (first|(go_at_call 104;refine (k2 _).mono ?_;rintro e w2 ⟨rfl,hb2⟩;first|(have T4:Yk w2 (w.heap.size+1+1) [.int .i64 0,.int .i64 0]:=Yk.below (by exact H2'.out) hb2;obtain ⟨c20,f20⟩:=T4.2 0 _ rfl;obtain ⟨c21,f21⟩:=T4.2 1 _ rfl)|(have T4:Yk w2 (w.heap.size+1+1) [.int .i64 r.n,.int .i64 r.d]:=Yk.below (by exact H2'.out.stored [.int .i64 r.n,.int .i64 r.d] rfl) hb2;obtain ⟨c20,f20⟩:=T4.2 0 _ rfl;obtain ⟨c21,f21⟩:=T4.2 1 _ rfl)))
  all_goals go_wp2
  refine bodyPost_ret (v:=.tuple #[.agg #[.int .i64 r.n,.int .i64 r.d],.bool ok]) (by simp [results,Tryz.results146,go_sem, *]) rfl ⟨rfl, ?_⟩;have hbw3:=Xf hbw2.drew hb2;exact Xp
theorem iPieceAt_c (q:Yu) (s:XQ) (w:World) (hq:q.In) (hs:s.In) :
 Calls Tryz.prog 57 #[pieceV q,YQ s] w λ e w'=>e=.returned (ratV (Xo q s) (Xe (Xo q s)))/\Below w.heap.size w w':=by
 have k1:=λ W=>iPieceOk_c q W hq;have k2:=λ W=>Jj s W hs;have k3:=λ W h1 h2=>ipieceAt_c q s W h1 h2;have hfin:Hid (Xo q s=if Zs q=true/\Xv s=true then JE q s else Y3):=rfl;have HA:=Yk.new w #[.int .i64 q.a,.int .i64 q.b,.int .i64 q.c,.int .i64 q.d] 109;have HB:=Yk.new (w.alloc (.cells #[.int .i64 q.a,.int .i64 q.b,.int .i64 q.c,.int .i64 q.d] 109)) #[.int .i64 s.x,.int .i64 s.y,.int .i64 s.d] 30;have HC:=Yk.new ((w.alloc (.cells #[.int .i64 q.a,.int .i64 q.b,.int .i64 q.c,.int .i64 q.d] 109)).alloc (.cells #[.int .i64 s.x,.int .i64 s.y,.int .i64 s.d] 30)) #[.int .i64 0,.int .i64 0] 36;simp only [World.size_alloc] at HB HC;generalize Zs q=b1 at *;generalize Xv s=b2 at *;cases b1
 ·go_enter Tryz.func57,Tryz.ntmps57
  go_wp2_with (fail)
  refine (k1 _).mono ?_;rintro e w1 ⟨rfl,hb1⟩;have H1:=HC.below hb1;have hbw:=Xf (Xc (Xc (Xc (Below.refl w.heap.size w) _) _) _) hb1;obtain ⟨cH1_0,fH1_0⟩:=H1.2 0 _ rfl;obtain ⟨cH1_1,fH1_1⟩:=H1.2 1 _ rfl;go_wp2
  refine bodyPost_ret (v:=.tuple #[.agg #[.int .i64 0,.int .i64 0],.bool false]) (by simp [results,Tryz.results57,go_sem, *]) rfl ⟨by rw [hfin.out];rfl, ?_⟩;exact Xp
 ·cases b2
  ·go_enter Tryz.func57,Tryz.ntmps57
   go_wp2_with (fail)
   refine (k1 _).mono ?_;rintro e w1 ⟨rfl,hb1⟩;have H1:=HC.below hb1;have H2:=((HB.alloc _).below hb1);have hbw:=Xf (Xc (Xc (Xc (Below.refl w.heap.size w) _) _) _) hb1;obtain ⟨cH2_0,fH2_0⟩:=H2.2 0 _ rfl;obtain ⟨cH2_1,fH2_1⟩:=H2.2 1 _ rfl;obtain ⟨cH2_2,fH2_2⟩:=H2.2 2 _ rfl;go_wp2_with (fail)
   refine (k2 _).mono ?_;rintro e w2 ⟨rfl,hb2⟩;have H3:=H1.below hb2;have hbw2:=Xf hbw hb2;obtain ⟨cH3_0,fH3_0⟩:=H3.2 0 _ rfl;obtain ⟨cH3_1,fH3_1⟩:=H3.2 1 _ rfl;go_wp2
   refine bodyPost_ret (v:=.tuple #[.agg #[.int .i64 0,.int .i64 0],.bool false]) (by simp [results,Tryz.results57,go_sem, *]) rfl ⟨by rw [hfin.out];rfl, ?_⟩;exact Xp
  ·have k4:=λ W=>k3 W rfl rfl;have hfin2:Hid (Xo q s=JE q s):=hfin.out;rw [hfin2.out];clear hfin k3 hfin2;generalize JE q s=r at *;generalize Xe r=ok at *;go_enter Tryz.func57,Tryz.ntmps57
   go_wp2_with (fail)
   refine (k1 _).mono ?_;rintro e w1 ⟨rfl,hb1⟩;have H1:=HC.below hb1;have H2:=((HB.alloc _).below hb1);have H3:=(((HA.alloc _).alloc _).below hb1);have hbw:=Xf (Xc (Xc (Xc (Below.refl w.heap.size w) _) _) _) hb1;obtain ⟨cH2_0,fH2_0⟩:=H2.2 0 _ rfl;obtain ⟨cH2_1,fH2_1⟩:=H2.2 1 _ rfl;obtain ⟨cH2_2,fH2_2⟩:=H2.2 2 _ rfl;go_wp2_with (fail)
   refine (k2 _).mono ?_;rintro e w2 ⟨rfl,hb2⟩;have H4:=H1.below hb2;have H5:=H2.below hb2;have H6:=H3.below hb2;have hbw2:=Xf hbw hb2;clear cH2_0 cH2_1 cH2_2 fH2_0 fH2_1 fH2_2;obtain ⟨cH5_0,fH5_0⟩:=H5.2 0 _ rfl;obtain ⟨cH5_1,fH5_1⟩:=H5.2 1 _ rfl;obtain ⟨cH5_2,fH5_2⟩:=H5.2 2 _ rfl;obtain ⟨cH6_0,fH6_0⟩:=H6.2 0 _ rfl;obtain ⟨cH6_1,fH6_1⟩:=H6.2 1 _ rfl;obtain ⟨cH6_2,fH6_2⟩:=H6.2 2 _ rfl;obtain ⟨cH6_3,fH6_3⟩:=H6.2 3 _ rfl;go_wp2_with (fail)
   refine (k4 _).mono ?_;rintro e w3 ⟨rfl,hb3⟩;have H7:=H4.below hb3;have hbw3:=Xf hbw2 hb3;clear cH5_0 cH5_1 cH5_2 fH5_0 fH5_1 fH5_2 cH6_0 cH6_1 cH6_2 fH6_0 fH6_1 fH6_2 cH6_3 fH6_3;obtain ⟨cH7_0,fH7_0⟩:=H7.2 0 _ rfl;obtain ⟨cH7_1,fH7_1⟩:=H7.2 1 _ rfl;go_wp2
   refine bodyPost_ret (v:=.tuple #[.agg #[.int .i64 r.n,.int .i64 r.d],.bool ok]) (by simp [results,Tryz.results57,go_sem, *]) rfl ⟨rfl, ?_⟩;exact Xp
end Go.Proofs.YtabfdkpdppemaaaGreat
