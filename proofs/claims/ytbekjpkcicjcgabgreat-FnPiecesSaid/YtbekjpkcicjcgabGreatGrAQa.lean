/-
 Words on memory that the contracts of this claim use: a slice that reads as a list of structs, a slice of the call's own.
 Conditions: none.
-/
import Derived.Test.YtbekjpkcicjcgabGreatRows
import Derived.WalkKit
import Derived.WalkSpells
import Derived.WalkLawsBesides
import Derived.Deep.Draws
import Derived.Lib.Hide
import Derived.Deep.Slices
import Derived.Deep.Fields
import Derived.ChangeSame
import Derived.ArgAppend
import Derived.JoinedOf
import Derived.Deep.QuietTactic
import Derived.BigQuiet
import Derived.StillTailTactics
import Derived.Deep.RegionHeld3
import Derived.Test.YtbekjpkcicjcgabGreatEroM
set_option maxRecDepth 100000
namespace Go.Proofs.YtbekjpkcicjcgabGreat
open Go.RowKit
section
variable {α:Type} {sz:Nat} {enc:α->List Value} {w w':World} {A:Option Addr} {xs:List α}
end
section
variable {α:Type} {T sz:Nat} {enc:α->List Value} {w w':World} {v:Value} {xs:List α} {base:Nat}
end
section
variable {α:Type} {T sz:Nat} {enc:α->List Value} {w w':World} {g N k:Nat} {xs:List α}
end
section
variable {w w':World} {g:Nat} {vs:List Value}
end
abbrev KU (x:Yu):Value:=.agg #[.int .i64 x.n,.int .i64 x.d]
def Kv (q:Xm) (s:XW):Yu:=if 1000<s.d then ZV else X6 (q.a*s.x+q.b*s.y+q.c*s.d) (q.d*s.d)
def XC (q:Xm) (s:XW):Yu:=if XM q=true/\XP s=true then Kv q s else ZV
theorem j1_FnPieces:(Rows.fnPiecesRow.inPlace == Tryz.prog.inPlace 3)=true:=by kernel_rfl
theorem j2_FnPieces:(Rows.fnPiecesRow.unfollowed == Tryz.prog.unfollowed 3)=true:=by kernel_rfl
theorem iGcdOf_c (a b:Int) (w:World) (ha:Yo a) (hb:Yo b) :
 Calls Tryz.prog 92 #[.int .i64 a,.int .i64 b] w λ e w'=>e=.returned (.int .i64 (YO a b))/\Below w.heap.size w w':=by
 have hall:∀ n∈[a,b],Yo n:=by simp [ha,hb]
 have hG:Hid (YO a b=if Yn a||Yn b then 0 else ((Xh [a,b]:Nat):Int)):=gcdOf_eq a b;have hsl:Sl 1 KX (w.alloc (.cells #[.int .i64 a,.int .i64 b] 3)) (some ⟨w.heap.size,0,none⟩) [a,b]:=sl_new Zc _ _ _ rfl;have hg:=Ks _ [a,b] 2 _ (by simp) hall hsl;have hle:=Jd [a,b] hall;have hlt:=gcd_pair_le ha hb;generalize Xh [a,b]=G at *;have hm1:=isLeast_c a;have hm2:=isLeast_c b;generalize Yn a=ma at *;generalize Yn b=mb at *;have hGG:ma=false->mb=false->G<=9223372036854775807:=hlt;clear hlt;cases ma<;>cases mb
 ·have:=hGG rfl rfl;clear hGG;go_enter Tryz.func92,Tryz.ntmps92
  go_wp2_with (fail)
  refine (hg).mono ?_;rintro e w1 ⟨rfl,hb_w1⟩;go_wp2_with (fail)
  refine (hm1 _ ha).mono ?_;rintro e w' ⟨rfl,rfl⟩;go_wp2_with (fail)
  refine (hm2 _ hb).mono ?_;rintro e w' ⟨rfl,rfl⟩;go_wp2
  go_ret
  exact ⟨YH (by rw [hG.out];rfl),(bR.alloc Xs _).trans (hb_w1.mono (by simp))⟩
 ·clear hGG;go_enter Tryz.func92,Tryz.ntmps92
  go_wp2_with (fail)
  refine (hg).mono ?_;rintro e w1 ⟨rfl,hb_w1⟩;go_wp2_with (fail)
  refine (hm1 _ ha).mono ?_;rintro e w' ⟨rfl,rfl⟩;go_wp2_with (fail)
  refine (hm2 _ hb).mono ?_;rintro e w' ⟨rfl,rfl⟩;go_wp2
  go_ret
  exact ⟨YH (by rw [hG.out];rfl),(bR.alloc Xs _).trans (hb_w1.mono (by simp))⟩
 all_goals
  clear hGG;go_enter Tryz.func92,Tryz.ntmps92
  go_wp2_with (fail)
  refine (hg).mono ?_;rintro e w1 ⟨rfl,hb_w1⟩;go_wp2_with (fail)
  refine (hm1 _ ha).mono ?_;rintro e w' ⟨rfl,rfl⟩;go_wp2
  go_ret
  exact ⟨YH (by rw [hG.out];rfl),(bR.alloc Xs _).trans (hb_w1.mono (by simp))⟩
theorem iRatioOk_c (r:Yu) (w:World) (hr:r.In) :
 Calls Tryz.prog 48 #[KU r] w λ e w'=>e=.returned (.bool (XE r))/\Below w.heap.size w w':=by
 obtain ⟨h1,h2⟩:=hr;cases e1:Zo r.d 1 1000000000000000
 ·go_enter Tryz.func48,Tryz.ntmps48
  go_wp2_with (first|(go_at_call 77;refine (Yt _ _ _ _).mono ?_;rintro e w' ⟨rfl,rfl⟩))
  go_ret
  refine ⟨Xi (by simp [XE,e1]), ?_⟩;exact Xn
 ·cases e2:Zo r.n (-1000000000000000000) 1000000000000000000
  ·go_enter Tryz.func48,Tryz.ntmps48
   go_wp2_with (first|(go_at_call 77;refine (Yt _ _ _ _).mono ?_;rintro e w' ⟨rfl,rfl⟩))
   go_ret
   refine ⟨Xi (by simp [XE,e1,e2]), ?_⟩;exact Xn
  ·cases e3:(YO r.n r.d == 1);all_goals
    go_enter Tryz.func48,Tryz.ntmps48
    go_wp2_with (go_at_call 77;refine (Yt _ _ _ _).mono ?_;rintro e w' ⟨rfl,rfl⟩)
    refine (iGcdOf_c _ _ _ h1 h2).mono ?_;rintro e w1 ⟨rfl,hb1⟩;go_wp2
    go_ret
    refine ⟨Xi (by rw [Bool.eq_iff_iff];simp [XE,e1,e2] at e3 ⊢;exact e3), ?_⟩;exact Xg (Xa bR _) hb1
theorem iSpotOk_c (s:XW) (w:World) (hs:s.In) :
 Calls Tryz.prog 44 #[spotV s] w λ e w'=>e=.returned (.bool (XP s))/\Below w.heap.size w w':=by
 cases e1:Zo s.d 1 5000000000
 ·go_enter Tryz.func44,Tryz.ntmps44
  go_wp2_with (first|(go_at_call 77;refine (Yt _ _ _ _).mono ?_;rintro e w' ⟨rfl,rfl⟩))
  go_ret
  refine ⟨Xi (by simp [XP,e1]), ?_⟩;exact Xn
 ·obtain ⟨d1,d2⟩:=YQ.1 e1;cases e2:Zo s.x (-1000*s.d) (1000*s.d)
  ·go_enter Tryz.func44,Tryz.ntmps44
   go_wp2_with (first|(go_at_call 77;refine (Yt _ _ _ _).mono ?_;rintro e w' ⟨rfl,rfl⟩))
   go_ret
   refine ⟨Xi (by simp [XP,e1,e2]), ?_⟩;exact Xn
  ·cases e3:Zo s.y (-1000*s.d) (1000*s.d)
   ·go_enter Tryz.func44,Tryz.ntmps44
    go_wp2_with (first|(go_at_call 77;refine (Yt _ _ _ _).mono ?_;rintro e w' ⟨rfl,rfl⟩))
    go_ret
    refine ⟨Xi (by simp [XP,e1,e2,e3]), ?_⟩;exact Xn
   ·have hall:∀ n∈[s.x,s.y,s.d],Yo n:=by simpa [XW.In] using hs
    have hfin:Hid (XP s=decide (Xh [s.x,s.y,s.d]=1)):=by simp [Hid,XP,e1,e2,e3]
    have hg:=Ks (some ⟨w.heap.size+1,0,none⟩) [s.x,s.y,s.d] 3 _ (by simp) hall (Jy (T:=3) Zc (w.alloc (.cells #[.int .i64 s.x,.int .i64 s.y,.int .i64 s.d] 30)) [s.x,s.y,s.d] #[.int .i64 s.x,.int .i64 s.y,.int .i64 s.d] rfl (by simp));have hle:=Jd [s.x,s.y,s.d] hall;generalize Xh [s.x,s.y,s.d]=G at *;cases e4:((G:Int) == 1);all_goals
     go_enter Tryz.func44,Tryz.ntmps44
     go_wp2_with (go_at_call 77;refine (Yt _ _ _ _).mono ?_;rintro e w' ⟨rfl,rfl⟩)
     refine hg.mono ?_;rintro e w1 ⟨rfl,hb1⟩;go_wp2
     go_ret
     refine ⟨Xi (by rw [hfin.out,Bool.eq_iff_iff];simp at e4 ⊢;omega), ?_⟩;exact Xg (Xa (Xa bR _) _) hb1
theorem iSpotOf_c (x y d:Int) (w:World) (hx:Yo x) (hy:Yo y) (hd:Yo d) :
 Calls Tryz.prog 137 #[.int .i64 x,.int .i64 y,.int .i64 d] w λ e w'=>e=.returned (optSpotV (Y9 x y d))/\Below w.heap.size w w':=by
 by_cases hd0:d<=0
 ·have hfin:Y9 x y d=none:=by simp [Y9,hd0]
  rw [hfin];go_enter Tryz.func137,Tryz.ntmps137
  go_wp2
  refine bodyPost_ret (v:=.tuple #[.agg #[.int .i64 0,.int .i64 0,.int .i64 0],.bool false]) (by simp [results,Tryz.results137,go_sem]) rfl ⟨rfl, ?_⟩;exact Xn
 ·cases mx:Yn x
  ·cases my:Yn y
   ·have hall:∀ n∈[x,y,d],Yo n:=by simp [hx,hy,hd]
    have md:Yn d=false:=YF (by omega);have hfin:Hid (Y9 x y d=if XP ⟨x.tdiv (Xh [x,y,d]),y.tdiv (Xh [x,y,d]),d.tdiv (Xh [x,y,d])⟩=true then some ⟨x.tdiv (Xh [x,y,d]),y.tdiv (Xh [x,y,d]),d.tdiv (Xh [x,y,d])⟩ else none):=by
     show _=_;rw [Y9,if_neg (by simp [hd0,mx,my])];rfl
    have hg:=Ks (some ⟨w.heap.size+1,0,none⟩) [x,y,d] 3 _ (by simp) hall (Jy (T:=3) Zc (w.alloc (.cells #[.int .i64 0,.int .i64 0,.int .i64 0] 30)) [x,y,d] #[.int .i64 x,.int .i64 y,.int .i64 d] rfl (by simp));have hle:=Jd [x,y,d] hall;have hpos:0<Xh [x,y,d]:=by rw [gcd3];exact Nat.gcd_pos_of_pos_right _ (by omega)
    generalize Xh [x,y,d]=G at *;have i1:=Z8 hx mx G;have i2:=Z8 hy my G;have i3:=Z8 hd md G;have c1:=λ W=>divided_c x G W hx mx hpos hle;have c2:=λ W=>divided_c y G W hy my hpos hle;have c3:=λ W=>divided_c d G W hd md hpos hle;have c4:=λ W=>iSpotOk_c ⟨x.tdiv G,y.tdiv G,d.tdiv G⟩ W ⟨i1,i2,i3⟩;have m1:=Ky x false mx hx;have m2:=Ky y false my hy;generalize x.tdiv G=x' at *;generalize y.tdiv G=y' at *;generalize d.tdiv G=d' at *;clear i1 i2 i3 mx my md hx hy hd hall;generalize XP ⟨x',y',d'⟩=ok at *;cases ok;all_goals
     rw [hfin.out];go_enter Tryz.func137,Tryz.ntmps137
     go_wp2_with (fail)
     refine (m1 _).mono ?_;rintro e w' ⟨rfl,rfl⟩;go_wp2_with (fail)
     refine (m2 _).mono ?_;rintro e w' ⟨rfl,rfl⟩;go_wp2_with (fail)
     refine hg.mono ?_;rintro e w1 ⟨rfl,hb1⟩;have hb2:=(Xg (Xa (Xa (Below.refl w.heap.size w) _) _) hb1);have H1:=((X0.new w #[.int .i64 0,.int .i64 0,.int .i64 0] 30).alloc _).below hb1;obtain ⟨cH1_0,fH1_0⟩:=H1.2 0 _ rfl;obtain ⟨cH1_1,fH1_1⟩:=H1.2 1 _ rfl;obtain ⟨cH1_2,fH1_2⟩:=H1.2 2 _ rfl;go_wp2_with (fail)
     refine (c1 _).mono ?_;rintro e w' ⟨rfl,rfl⟩;go_wp2_with (fail)
     refine (c2 _).mono ?_;rintro e w' ⟨rfl,rfl⟩;go_wp2_with (fail)
     refine (c3 _).mono ?_;rintro e w' ⟨rfl,rfl⟩;go_wp2_with (fail)
     refine (c4 _).mono ?_;rintro e w2 ⟨rfl,hb4⟩;have hb5:=Xg (Xa hb2 (.cells #[.int .i64 x',.int .i64 y',.int .i64 d'] 30)) hb4;have H2:=(H1.alloc _).below hb4;have H3:=(X0.new _ _ _).below hb4;clear cH1_0 cH1_1 cH1_2 fH1_0 fH1_1 fH1_2;obtain ⟨cH2_0,fH2_0⟩:=H2.2 0 _ rfl;obtain ⟨cH2_1,fH2_1⟩:=H2.2 1 _ rfl;obtain ⟨cH2_2,fH2_2⟩:=H2.2 2 _ rfl;obtain ⟨cH3_0,fH3_0⟩:=H3.2 0 _ rfl;obtain ⟨cH3_1,fH3_1⟩:=H3.2 1 _ rfl;obtain ⟨cH3_2,fH3_2⟩:=H3.2 2 _ rfl;go_wp2
     first
      | exact bodyPost_ret (v:=.tuple #[.agg #[.int .i64 0,.int .i64 0,.int .i64 0],.bool false]) (by simp [results,Tryz.results137,go_sem, *]) rfl ⟨rfl,YV (YV (YV hb5 Xs _) Xs _) Xs _⟩
      | exact bodyPost_ret (v:=.tuple #[.agg #[.int .i64 x',.int .i64 y',.int .i64 d'],.bool true]) (by simp [results,Tryz.results137,go_sem, *]) rfl ⟨rfl,YV (YV (YV hb5 Xs _) Xs _) Xs _⟩
   ·have m1:=Ky x false mx hx;have m2:=Ky y true my hy;have hfin:Y9 x y d=none:=by simp [Y9,my]
    rw [hfin];clear mx my;go_enter Tryz.func137,Tryz.ntmps137
    go_wp2_with (fail)
    refine (m1 _).mono ?_;rintro e w' ⟨rfl,rfl⟩;go_wp2_with (fail)
    refine (m2 _).mono ?_;rintro e w' ⟨rfl,rfl⟩;go_wp2
    refine bodyPost_ret (v:=.tuple #[.agg #[.int .i64 0,.int .i64 0,.int .i64 0],.bool false]) (by simp [results,Tryz.results137,go_sem]) rfl ⟨rfl, ?_⟩;exact Xn
  ·have m1:=Ky x true mx hx;have hfin:Y9 x y d=none:=by simp [Y9,mx]
   rw [hfin];clear mx;go_enter Tryz.func137,Tryz.ntmps137
   go_wp2_with (fail)
   refine (m1 _).mono ?_;rintro e w' ⟨rfl,rfl⟩;go_wp2
   refine bodyPost_ret (v:=.tuple #[.agg #[.int .i64 0,.int .i64 0,.int .i64 0],.bool false]) (by simp [results,Tryz.results137,go_sem]) rfl ⟨rfl, ?_⟩;exact Xn
end Go.Proofs.YtbekjpkcicjcgabGreat
namespace Go.Proofs.YtbekjpkcicjcgabGreat
open Go.RowKit Go.ChangeShapes Go.WideShapes Go.ChangeAt Go.Deep
def InB (n:Int):Prop:=0<=n/\n<=255
def bytesC (ns:List Int):=ns.map (Value.int .u8)
def byteC (n:Int):List Value:=[.int .u8 n]
theorem inB_of_wf {n:Int} (h:(Lit.int .u8 n).wf=true):InB n:=by
 simp [Lit.wf,IntKind.min,IntKind.max,IntKind.signed,IntKind.bits] at h;exact ⟨by omega,by omega⟩
section
variable {H:Type} {enc:TypeId × Value->H} {P:Program} {w:World} {base:Nat} {spare:Nat->Bool} {held:Bool}
theorem open_slice_rowsB {fuel k:Nat} {t e:TypeId} {cs:List Value} {x:DataW H × List MemPlace} (ht:P.underlying t=some (.slice e)) (hk:P.cellsOf e=k)
 (hel:∀ n cs' x',DataW.trod enc P w base spare held n e cs'=some x'->∃ ns:List Int,ns.length=k/\(∀ n∈ns,InB n)/\cs'=bytesC ns)
 (hpos:0<k) (h:DataW.trod enc P w base spare held fuel t cs=some x) :
 ∃ A n cap,cs=[.slice A n cap]/\n<=9223372036854775807/\∃ rows:List (List Int),rows.length=n/\(∀ r∈rows,r.length=k/\∀ n∈r,InB n)/\Sl k bytesC w A rows:=by
 rcases open_slice ht h with ⟨hcs,_⟩|⟨a,len,cap,m,n,D,Pl,hcs,hb,hl,hm,hmm,hx,hi⟩
 ·exact ⟨_,_,_,hcs,by omega,[],rfl,by simp,λ h=>by simp at h⟩
 ·refine ⟨_,_,_,hcs,by unfold maxLen at hm;omega, ?_⟩;have hlm:len<=m:=by rw [hmm];split<;>omega
  have each:∀ i,i<len->∃ ns:List Int,ns.length=k/\(∀ n∈ns,InB n)/\w.cells? base (a.add (i*k)) k=some (bytesC ns):=by
   intro i hil;obtain ⟨cs',h1,h2⟩:=hi i (by omega);obtain ⟨ns,h3,h4,h5⟩:=hel _ _ _ h2;rw [hk] at h1;exact ⟨ns,h3,h4,by rw [h1,h5]⟩
  obtain ⟨f,hf⟩:=choose_lt each;refine ⟨(List.range len).map f,by simp, ?_, ?_⟩
  ·intro r hr;simp only [List.mem_map,List.mem_range] at hr;obtain ⟨i,hil,rfl⟩:=hr;exact ⟨(hf i hil).1,(hf i hil).2.1⟩
  ·intro h0;simp at h0;obtain ⟨b,off,spot⟩:=a;have hspot:spot=none:=by
    obtain ⟨h3,h4,h5⟩:=hf 0 h0;obtain ⟨_,h6,h7⟩:=World.cells?_some h5;have h8:=h7 0 hpos;rw [List.getElem?_eq_getElem (by omega)] at h8;have:=World.cell?_spot h8;simpa [Addr.add] using this
   subst hspot;have hadd:∀ m:Nat,(⟨b,off,none⟩:Addr).add m=⟨b,off+m,none⟩:=by
    intro m;unfold Addr.add;split
    ·subst_vars;rfl
    ·rfl
   have hcell:∀ i,i<len->∀ j u,(bytesC (f i))[j]? = some u->w.cell? ⟨b,off+i*k+j,none⟩=some u:=by
    intro i hil j u hu;obtain ⟨h3,h4,h5⟩:=hf i hil;obtain ⟨_,h6,h7⟩:=World.cells?_some h5;have hj:j<k:=by
     rcases Nat.lt_or_ge j k with h|h
     ·exact h
     ·rw [List.getElem?_eq_none (by omega)] at hu;cases hu
    have h8:=h7 j hj;rw [hu,add_add,hadd] at h8;rw [<- h8];congr 2;omega
   refine ⟨b,off,rfl, ?_, ?_⟩
   ·obtain ⟨h3,h4,h5⟩:=hf 0 h0;have hl3:0<(bytesC (f 0)).length:=by simp [bytesC];omega
    have:=hcell 0 h0 0 _ (List.getElem?_eq_getElem hl3);exact block_lt_of_cell this
   ·intro i hil j u hu;simp only [List.length_map,List.length_range] at hil;simp only [List.getElem_map,List.getElem_range] at hu;exact hcell i hil j u hu
theorem open_byteS {fuel:Nat} {t e:TypeId} {cs:List Value} {x:DataW H × List MemPlace} (ht:P.underlying t=some (.slice e)) (he:P.underlying e=some (.int .u8)) (hk:P.cellsOf e=1)
 (h:DataW.trod enc P w base spare held fuel t cs=some x) :
 ∃ A cap,∃ xs:List Int,cs=[.slice A xs.length cap]/\xs.length<=9223372036854775807/\(∀ n∈xs,InB n)/\Sl 1 byteC w A xs:=by
 obtain ⟨A,n,cap,hcs,hn,rows,hl,hr,hs⟩:=open_slice_rowsB (k:=1) ht hk (λ n cs' x' h'=>by
  obtain ⟨m,h1,_,h2⟩:=DataW.trod_int he h';exact ⟨[m],rfl,by simpa using inB_of_wf h2,by simp [h1,bytesC]⟩) (by omega) h
 refine ⟨A,cap,rows.map (λ r=>r.getD 0 0),by simp [hcs,hl],by simp;omega, ?_,hs.map _ ?_⟩
 ·intro x hx;simp only [List.mem_map] at hx;obtain ⟨r,hr',rfl⟩:=hx;match r,hr r hr' with
  | [a],h=>simpa using h.2 a (by simp)
 ·intro r hr';match r,hr r hr' with
  | [a],h=>rfl
end
theorem openByteSV {H:Type} {enc:TypeId × Value->H} {W:World} {base b0:Nat} {spare:Nat->Bool} {held:Bool} {r:Reach} {v:Value} {d:DataW H} {p:List MemPlace}
 (hv:Value.okWide Tryz.prog W r b0 22 v) (h:DataW.Trod enc Tryz.prog W base spare held 22 v d p) :
 ∃ A cap,∃ xs:List Int,v=.slice A xs.length cap/\xs.length<=9223372036854775807/\(∀ y∈xs,InB y)/\Sl 1 byteC W A xs:=by
 obtain ⟨a0,len,cap,rfl⟩:=okWide_slice Tryz.underlying22 hv;obtain ⟨fuel,hf⟩:=h;obtain ⟨A,cap',xs,e1,h1,h2,h3⟩:=open_byteS Tryz.underlying22 Tryz.underlying5 (by kernel_rfl) hf;simp only [Value.cells,List.cons.injEq,and_true] at e1;exact ⟨A,cap',xs,e1,h1,h2,h3⟩
end Go.Proofs.YtbekjpkcicjcgabGreat
