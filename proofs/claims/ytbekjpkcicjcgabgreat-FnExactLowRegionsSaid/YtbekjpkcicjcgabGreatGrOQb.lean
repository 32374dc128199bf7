/-
 How the law's arguments read: structs of ints, slices of them; and the frame of a law that changes nothing that was there.
 Conditions: none.
-/
import Derived.ProofKit
import Derived.OpenShut
import Derived.ChangeOld
import Derived.Below
import Derived.Test.YtbekjpkcicjcgabGreatGrAQb
import Derived.Test.YtbekjpkcicjcgabGreatEroM
set_option maxRecDepth 100000
namespace Go.Proofs.YtbekjpkcicjcgabGreat
open Go.RowKit Go.ChangeShapes Go.WideShapes Go.ChangeAt Go.Deep
theorem Jb {n:Int} (h:(Lit.int .i64 n).wf=true):Yo n:=by
 simp [Lit.wf,IntKind.min,IntKind.max,IntKind.signed,IntKind.bits] at h;exact ⟨by omega,by omega⟩
def intsC (ns:List Int):List Value:=ns.map (Value.int .i64)
section
variable {H:Type} {enc:TypeId × Value->H} {P:Program} {w:World} {base:Nat} {spare:Nat->Bool} {held:Bool}
def allInts (P:Program) (fs:Array Field):Bool:=fs.toList.all λ f=>match P.underlying f.type with|some (.int .i64)=>true|_=>false
theorem open_ints_cells {fs:Array Field} {fuel:Nat} {t:TypeId} {cs:List Value} {x:DataW H × List MemPlace} (he:P.underlying t=some (.struct fs)) (hone:oneCellFields P fs=true) (hC:P.cellsOf t=fs.size)
 (hint:allInts P fs=true) (h:DataW.trod enc P w base spare held fuel t cs=some x) :
 ∃ ns:List Int,ns.length=fs.size/\(∀ n∈ns,Yo n)/\cs=intsC ns:=by
 obtain ⟨ys,n',_,_,hlen,hyl,hf⟩:=DataW.trod_struct he h;rw [hC] at hlen;have each:∀ j,j<fs.size->∃ n:Int,Yo n/\cs[j]? = some (.int .i64 n):=by
  intro j hj;have hfj:fs[j]? = some fs[j]:=Array.getElem?_eq_getElem hj;obtain ⟨ho,hk⟩:=hone_of hone j _ hfj;have hint':P.underlying fs[j].type=some (.int .i64):=by
   have:=List.all_eq_true.1 hint fs[j] (by simp);split at this
   ·assumption
   ·cases this
  have h1:=hf j _ hfj;rw [ho,hk] at h1;have e1:(cs.drop j).take 1=[cs[j]'(by omega)]:=by
   rw [List.drop_eq_getElem_cons (by omega)];rfl
  rw [e1,List.getElem?_eq_getElem (by omega)] at h1;obtain ⟨n,hn,_,hwf⟩:=DataW.trod_int hint' h1;refine ⟨n,Jb hwf, ?_⟩;rw [List.getElem?_eq_getElem (by omega)];simpa using hn
 obtain ⟨f,hf2⟩:=choose_lt each;refine ⟨(List.range fs.size).map f,by simp, ?_, ?_⟩
 ·intro n hn;simp only [List.mem_map,List.mem_range] at hn;obtain ⟨j,hj,rfl⟩:=hn;exact (hf2 j hj).1
 ·apply List.ext_getElem?;intro j;rcases Nat.lt_or_ge j fs.size with hj|hj
  ·rw [(hf2 j hj).2];simp [intsC,List.getElem?_range hj]
  ·rw [List.getElem?_eq_none (by omega),List.getElem?_eq_none (by simp [intsC];omega)]
theorem JV {fuel k:Nat} {t e:TypeId} {cs:List Value} {x:DataW H × List MemPlace} (ht:P.underlying t=some (.slice e)) (hk:P.cellsOf e=k)
 (hel:∀ n cs' x',DataW.trod enc P w base spare held n e cs'=some x'->∃ ns:List Int,ns.length=k/\(∀ n∈ns,Yo n)/\cs'=intsC ns)
 (hpos:0<k) (h:DataW.trod enc P w base spare held fuel t cs=some x) :
 ∃ A n cap,cs=[.slice A n cap]/\n<=9223372036854775807/\∃ rows:List (List Int),rows.length=n/\(∀ r∈rows,r.length=k/\∀ n∈r,Yo n)/\Sl k intsC w A rows:=by
 rcases open_slice ht h with ⟨hcs,_⟩|⟨a,len,cap,m,n,D,Pl,hcs,hb,hl,hm,hmm,hx,hi⟩
 ·exact ⟨_,_,_,hcs,by omega,[],rfl,by simp,λ h=>by simp at h⟩
 ·refine ⟨_,_,_,hcs,by unfold maxLen at hm;omega, ?_⟩;have hlm:len<=m:=by rw [hmm];split<;>omega
  have each:∀ i,i<len->∃ ns:List Int,ns.length=k/\(∀ n∈ns,Yo n)/\w.cells? base (a.add (i*k)) k=some (intsC ns):=by
   intro i hil;obtain ⟨cs',h1,h2⟩:=hi i (by omega);obtain ⟨ns,h3,h4,h5⟩:=hel _ _ _ h2;rw [hk] at h1;exact ⟨ns,h3,h4,by rw [h1,h5]⟩
  obtain ⟨f,hf⟩:=choose_lt each;refine ⟨(List.range len).map f,by simp, ?_, ?_⟩
  ·intro r hr;simp only [List.mem_map,List.mem_range] at hr;obtain ⟨i,hil,rfl⟩:=hr;exact ⟨(hf i hil).1,(hf i hil).2.1⟩
  ·intro h0;simp at h0;obtain ⟨b,off,spot⟩:=a;have hspot:spot=none:=by
    obtain ⟨h3,h4,h5⟩:=hf 0 h0;obtain ⟨_,h6,h7⟩:=World.cells?_some h5;have h8:=h7 0 hpos;rw [List.getElem?_eq_getElem (by omega)] at h8;have:=World.cell?_spot h8;simpa [Addr.add] using this
   subst hspot;have hadd:∀ m:Nat,(⟨b,off,none⟩:Addr).add m=⟨b,off+m,none⟩:=by
    intro m;unfold Addr.add;split
    ·subst_vars;rfl
    ·rfl
   have hcell:∀ i,i<len->∀ j u,(intsC (f i))[j]? = some u->w.cell? ⟨b,off+i*k+j,none⟩=some u:=by
    intro i hil j u hu;obtain ⟨h3,h4,h5⟩:=hf i hil;obtain ⟨_,h6,h7⟩:=World.cells?_some h5;have hj:j<k:=by
     rcases Nat.lt_or_ge j k with h|h
     ·exact h
     ·rw [List.getElem?_eq_none (by omega)] at hu;cases hu
    have h8:=h7 j hj;rw [hu,add_add,hadd] at h8;rw [<- h8];congr 2;omega
   refine ⟨b,off,rfl, ?_, ?_⟩
   ·obtain ⟨h3,h4,h5⟩:=hf 0 h0;have hl3:0<(intsC (f 0)).length:=by simp [intsC];omega
    have:=hcell 0 h0 0 _ (List.getElem?_eq_getElem hl3);exact block_lt_of_cell this
   ·intro i hil j u hu;simp only [List.length_map,List.length_range] at hil;simp only [List.getElem_map,List.getElem_range] at hu;exact hcell i hil j u hu
theorem open_intS {fuel:Nat} {t e:TypeId} {cs:List Value} {x:DataW H × List MemPlace} (ht:P.underlying t=some (.slice e)) (he:P.underlying e=some (.int .i64)) (hk:P.cellsOf e=1)
 (h:DataW.trod enc P w base spare held fuel t cs=some x) :
 ∃ A cap,∃ xs:List Int,cs=[.slice A xs.length cap]/\xs.length<=9223372036854775807/\(∀ n∈xs,Yo n)/\Sl 1 KX w A xs:=by
 obtain ⟨A,n,cap,hcs,hn,rows,hl,hr,hs⟩:=JV (k:=1) ht hk (λ n cs' x' h'=>by
  obtain ⟨m,h1,_,h2⟩:=DataW.trod_int he h';exact ⟨[m],rfl,by simpa using Jb h2,by simp [h1,intsC]⟩) (by omega) h
 refine ⟨A,cap,rows.map (λ r=>r.getD 0 0),by simp [hcs,hl],by simp;omega, ?_,hs.map _ ?_⟩
 ·intro x hx;simp only [List.mem_map] at hx;obtain ⟨r,hr',rfl⟩:=hx;match r,hr r hr' with
  | [a],h=>simpa using h.2 a (by simp)
 ·intro r hr';match r,hr r hr' with
  | [a],h=>rfl
end
theorem openHalfS {H:Type} {enc:TypeId × Value->H} {W:World} {base:Nat} {spare:Nat->Bool} {held:Bool} {fuel:Nat} {cs:List Value} {x:DataW H × List MemPlace}
 (h:DataW.trod enc Tryz.prog W base spare held fuel 52 cs=some x) :
 ∃ A cap xs,cs=[.slice A (List.length xs) cap]/\xs.length<=9223372036854775807/\(∀ x∈xs,Half.In x)/\Sl 3 Xe W A xs:=by
 obtain ⟨A,n,cap,hcs,hn,rows,hl,hr,hs⟩:=JV (k:=3) Tryz.underlying52 (by kernel_rfl)
  (λ n cs' x' h'=>open_ints_cells Tryz.underlying140 (by kernel_rfl) (by kernel_rfl) (by kernel_rfl) h') (by omega) h
 refine ⟨A,cap,rows.map mkHalf, ?_,by simp;omega, ?_,hs.map mkHalf λ x hx=>mkHalf_C (hr x hx).1⟩
 ·simp [hcs,hl]
 ·intro x hx;simp only [List.mem_map] at hx;obtain ⟨r,hr',rfl⟩:=hx;exact mkHalf_In (hr r hr').1 (hr r hr').2
theorem openPieceS {H:Type} {enc:TypeId × Value->H} {W:World} {base:Nat} {spare:Nat->Bool} {held:Bool} {fuel:Nat} {cs:List Value} {x:DataW H × List MemPlace}
 (h:DataW.trod enc Tryz.prog W base spare held fuel 57 cs=some x) :
 ∃ A cap xs,cs=[.slice A (List.length xs) cap]/\xs.length<=9223372036854775807/\(∀ x∈xs,Xm.In x)/\Sl 4 Yy W A xs:=by
 obtain ⟨A,n,cap,hcs,hn,rows,hl,hr,hs⟩:=JV (k:=4) Tryz.underlying57 (by kernel_rfl)
  (λ n cs' x' h'=>open_ints_cells Tryz.underlying142 (by kernel_rfl) (by kernel_rfl) (by kernel_rfl) h') (by omega) h
 refine ⟨A,cap,rows.map mkPiece, ?_,by simp;omega, ?_,hs.map mkPiece λ x hx=>mkPiece_C (hr x hx).1⟩
 ·simp [hcs,hl]
 ·intro x hx;simp only [List.mem_map] at hx;obtain ⟨r,hr',rfl⟩:=hx;exact mkPiece_In (hr r hr').1 (hr r hr').2
theorem openRegionC {H:Type} {enc:TypeId × Value->H} {W:World} {base:Nat} {spare:Nat->Bool} {held:Bool} {fuel:Nat} {cs:List Value} {y:DataW H × List MemPlace}
 (h:DataW.trod enc Tryz.prog W base spare held fuel 54 cs=some y) :
 ∃ (x:List Half) (a:ZC),RegionIn x/\cs=[.slice a.A (List.length x) a.c]/\(List.length x<=9223372036854775807)/\Zn W x a:=by
 obtain ⟨xs,n,rfl,_,hl,hxl,hf⟩:=DataW.trod_struct Tryz.underlying54 h;have hl:cs.length=1:=hl.trans (by kernel_rfl);have hxl:xs.length=1:=hxl;match cs,hl with
 | [c0],_ =>
  have t0:DataW.trod enc Tryz.prog W base spare held n 52 [c0]=some (xs[0]'(by omega)):=by
   have q:DataW.trod enc Tryz.prog W base spare held n 52 (List.take (Tryz.prog.cellsOf 52) (List.drop 0 [c0]))=xs[0]?:=hf 0 _ rfl;rw [show Tryz.prog.cellsOf 52=1 from by kernel_rfl,List.getElem?_eq_getElem (by omega)] at q;exact q
  obtain ⟨A0,k0,s0,e0,l0,i0,S0⟩:=openHalfS t0;simp only [List.cons.injEq,and_true] at e0;subst e0;exact ⟨s0,⟨A0,k0⟩,⟨i0⟩,rfl,l0,⟨S0⟩⟩
theorem openRegion {H:Type} {enc:TypeId × Value->H} {W:World} {base b0:Nat} {spare:Nat->Bool} {held:Bool} {r:Reach} {v:Value} {d:DataW H} {p:List MemPlace}
 (hv:Value.okWide Tryz.prog W r b0 54 v) (h:DataW.Trod enc Tryz.prog W base spare held 54 v d p) :
 ∃ (x:List Half) (a:ZC),RegionIn x/\v=Yr x a/\(List.length x<=9223372036854775807)/\Zn W x a:=by
 obtain ⟨cs,rfl,_⟩:=okWide_struct Tryz.underlying54 hv;obtain ⟨fuel,hf⟩:=h;obtain ⟨x,a,h1,h2,h3,h4⟩:=openRegionC (cs:=cs.toList) (by simpa [Value.cells] using hf);refine ⟨x,a,h1, ?_,h3,h4⟩;cases cs;simp only at h2;rw [h2]
theorem openRoomC {H:Type} {enc:TypeId × Value->H} {W:World} {base:Nat} {spare:Nat->Bool} {held:Bool} {fuel:Nat} {cs:List Value} {y:DataW H × List MemPlace}
 (h:DataW.trod enc Tryz.prog W base spare held fuel 56 cs=some y) :
 ∃ (x:XK) (a:Yq),ZR x/\cs=[.slice a.map.A (List.length x.map) a.map.c,.int .i64 x.div,.int .i64 x.bx,.int .i64 x.by_,.int .i64 x.low,.int .i64 x.high,.slice a.noise.A (List.length x.noise) a.noise.c,.slice a.limits.A (List.length x.limits) a.limits.c]/\(List.length x.map<=9223372036854775807/\List.length x.noise<=9223372036854775807/\List.length x.limits<=9223372036854775807)/\Y4 W x a:=by
 obtain ⟨xs,n,rfl,_,hl,hxl,hf⟩:=DataW.trod_struct Tryz.underlying56 h;have hl:cs.length=8:=hl.trans (by kernel_rfl);have hxl:xs.length=8:=hxl;match cs,hl with
 | [c0,c1,c2,c3,c4,c5,c6,c7],_ =>
  have t0:DataW.trod enc Tryz.prog W base spare held n 23 [c0]=some (xs[0]'(by omega)):=by
   have q:DataW.trod enc Tryz.prog W base spare held n 23 (List.take (Tryz.prog.cellsOf 23) (List.drop 0 [c0,c1,c2,c3,c4,c5,c6,c7]))=xs[0]?:=hf 0 _ rfl;rw [show Tryz.prog.cellsOf 23=1 from by kernel_rfl,List.getElem?_eq_getElem (by omega)] at q;exact q
  have t1:DataW.trod enc Tryz.prog W base spare held n 3 [c1]=some (xs[1]'(by omega)):=by
   have q:DataW.trod enc Tryz.prog W base spare held n 3 (List.take (Tryz.prog.cellsOf 3) (List.drop 1 [c0,c1,c2,c3,c4,c5,c6,c7]))=xs[1]?:=hf 1 _ rfl;rw [show Tryz.prog.cellsOf 3=1 from by kernel_rfl,List.getElem?_eq_getElem (by omega)] at q;exact q
  have t2:DataW.trod enc Tryz.prog W base spare held n 3 [c2]=some (xs[2]'(by omega)):=by
   have q:DataW.trod enc Tryz.prog W base spare held n 3 (List.take (Tryz.prog.cellsOf 3) (List.drop 2 [c0,c1,c2,c3,c4,c5,c6,c7]))=xs[2]?:=hf 2 _ rfl;rw [show Tryz.prog.cellsOf 3=1 from by kernel_rfl,List.getElem?_eq_getElem (by omega)] at q;exact q
  have t3:DataW.trod enc Tryz.prog W base spare held n 3 [c3]=some (xs[3]'(by omega)):=by
   have q:DataW.trod enc Tryz.prog W base spare held n 3 (List.take (Tryz.prog.cellsOf 3) (List.drop 3 [c0,c1,c2,c3,c4,c5,c6,c7]))=xs[3]?:=hf 3 _ rfl;rw [show Tryz.prog.cellsOf 3=1 from by kernel_rfl,List.getElem?_eq_getElem (by omega)] at q;exact q
  have t4:DataW.trod enc Tryz.prog W base spare held n 3 [c4]=some (xs[4]'(by omega)):=by
   have q:DataW.trod enc Tryz.prog W base spare held n 3 (List.take (Tryz.prog.cellsOf 3) (List.drop 4 [c0,c1,c2,c3,c4,c5,c6,c7]))=xs[4]?:=hf 4 _ rfl;rw [show Tryz.prog.cellsOf 3=1 from by kernel_rfl,List.getElem?_eq_getElem (by omega)] at q;exact q
  have t5:DataW.trod enc Tryz.prog W base spare held n 3 [c5]=some (xs[5]'(by omega)):=by
   have q:DataW.trod enc Tryz.prog W base spare held n 3 (List.take (Tryz.prog.cellsOf 3) (List.drop 5 [c0,c1,c2,c3,c4,c5,c6,c7]))=xs[5]?:=hf 5 _ rfl;rw [show Tryz.prog.cellsOf 3=1 from by kernel_rfl,List.getElem?_eq_getElem (by omega)] at q;exact q
  have t6:DataW.trod enc Tryz.prog W base spare held n 54 [c6]=some (xs[6]'(by omega)):=by
   have q:DataW.trod enc Tryz.prog W base spare held n 54 (List.take (Tryz.prog.cellsOf 54) (List.drop 6 [c0,c1,c2,c3,c4,c5,c6,c7]))=xs[6]?:=hf 6 _ rfl;rw [show Tryz.prog.cellsOf 54=1 from by kernel_rfl,List.getElem?_eq_getElem (by omega)] at q;exact q
  have t7:DataW.trod enc Tryz.prog W base spare held n 54 [c7]=some (xs[7]'(by omega)):=by
   have q:DataW.trod enc Tryz.prog W base spare held n 54 (List.take (Tryz.prog.cellsOf 54) (List.drop 7 [c0,c1,c2,c3,c4,c5,c6,c7]))=xs[7]?:=hf 7 _ rfl;rw [show Tryz.prog.cellsOf 54=1 from by kernel_rfl,List.getElem?_eq_getElem (by omega)] at q;exact q
  obtain ⟨A0,k0,s0,e0,l0,i0,S0⟩:=open_intS Tryz.underlying23 Tryz.underlying3 (by kernel_rfl) t0;simp only [List.cons.injEq,and_true] at e0;subst e0;obtain ⟨a1,e1,_,w1⟩:=DataW.trod_int Tryz.underlying3 t1;simp only [List.cons.injEq,and_true] at e1;subst e1;obtain ⟨a2,e2,_,w2⟩:=DataW.trod_int Tryz.underlying3 t2;simp only [List.cons.injEq,and_true] at e2;subst e2;obtain ⟨a3,e3,_,w3⟩:=DataW.trod_int Tryz.underlying3 t3;simp only [List.cons.injEq,and_true] at e3;subst e3;obtain ⟨a4,e4,_,w4⟩:=DataW.trod_int Tryz.underlying3 t4;simp only [List.cons.injEq,and_true] at e4;subst e4;obtain ⟨a5,e5,_,w5⟩:=DataW.trod_int Tryz.underlying3 t5;simp only [List.cons.injEq,and_true] at e5;subst e5;obtain ⟨x6,a6,i6,e6,l6,S6⟩:=openRegionC t6;simp only [List.cons.injEq,and_true] at e6;subst e6;obtain ⟨x7,a7,i7,e7,l7,S7⟩:=openRegionC t7;simp only [List.cons.injEq,and_true] at e7;subst e7;exact ⟨⟨s0,a1,a2,a3,a4,a5,x6,x7⟩,⟨⟨A0,k0⟩,a6,a7⟩,⟨i0,Jb w1,Jb w2,Jb w3,Jb w4,Jb w5,i6,i7⟩,rfl,⟨l0,l6,l7⟩,⟨S0,S6,S7⟩⟩
theorem openRoom {H:Type} {enc:TypeId × Value->H} {W:World} {base b0:Nat} {spare:Nat->Bool} {held:Bool} {r:Reach} {v:Value} {d:DataW H} {p:List MemPlace}
 (hv:Value.okWide Tryz.prog W r b0 56 v) (h:DataW.Trod enc Tryz.prog W base spare held 56 v d p) :
 ∃ (x:XK) (a:Yq),ZR x/\v=Ye x a/\(List.length x.map<=9223372036854775807/\List.length x.noise<=9223372036854775807/\List.length x.limits<=9223372036854775807)/\Y4 W x a:=by
 obtain ⟨cs,rfl,_⟩:=okWide_struct Tryz.underlying56 hv;obtain ⟨fuel,hf⟩:=h;obtain ⟨x,a,h1,h2,h3,h4⟩:=openRoomC (cs:=cs.toList) (by simpa [Value.cells] using hf);refine ⟨x,a,h1, ?_,h3,h4⟩;cases cs;simp only at h2;rw [h2]
theorem openLawC {H:Type} {enc:TypeId × Value->H} {W:World} {base:Nat} {spare:Nat->Bool} {held:Bool} {fuel:Nat} {cs:List Value} {y:DataW H × List MemPlace}
 (h:DataW.trod enc Tryz.prog W base spare held fuel 59 cs=some y) :
 ∃ (x:KS) (a:KW),LawIn x/\cs=[.slice a.lows.A (List.length x.lows) a.lows.c,.slice a.highs.A (List.length x.highs) a.highs.c]/\(List.length x.lows<=9223372036854775807/\List.length x.highs<=9223372036854775807)/\J3 W x a:=by
 obtain ⟨xs,n,rfl,_,hl,hxl,hf⟩:=DataW.trod_struct Tryz.underlying59 h;have hl:cs.length=2:=hl.trans (by kernel_rfl);have hxl:xs.length=2:=hxl;match cs,hl with
 | [c0,c1],_ =>
  have t0:DataW.trod enc Tryz.prog W base spare held n 57 [c0]=some (xs[0]'(by omega)):=by
   have q:DataW.trod enc Tryz.prog W base spare held n 57 (List.take (Tryz.prog.cellsOf 57) (List.drop 0 [c0,c1]))=xs[0]?:=hf 0 _ rfl;rw [show Tryz.prog.cellsOf 57=1 from by kernel_rfl,List.getElem?_eq_getElem (by omega)] at q;exact q
  have t1:DataW.trod enc Tryz.prog W base spare held n 57 [c1]=some (xs[1]'(by omega)):=by
   have q:DataW.trod enc Tryz.prog W base spare held n 57 (List.take (Tryz.prog.cellsOf 57) (List.drop 1 [c0,c1]))=xs[1]?:=hf 1 _ rfl;rw [show Tryz.prog.cellsOf 57=1 from by kernel_rfl,List.getElem?_eq_getElem (by omega)] at q;exact q
  obtain ⟨A0,k0,s0,e0,l0,i0,S0⟩:=openPieceS t0;simp only [List.cons.injEq,and_true] at e0;subst e0;obtain ⟨A1,k1,s1,e1,l1,i1,S1⟩:=openPieceS t1;simp only [List.cons.injEq,and_true] at e1;subst e1;exact ⟨⟨s0,s1⟩,⟨⟨A0,k0⟩,⟨A1,k1⟩⟩,⟨i0,i1⟩,rfl,⟨l0,l1⟩,⟨S0,S1⟩⟩
theorem openLaw {H:Type} {enc:TypeId × Value->H} {W:World} {base b0:Nat} {spare:Nat->Bool} {held:Bool} {r:Reach} {v:Value} {d:DataW H} {p:List MemPlace}
 (hv:Value.okWide Tryz.prog W r b0 59 v) (h:DataW.Trod enc Tryz.prog W base spare held 59 v d p) :
 ∃ (x:KS) (a:KW),LawIn x/\v=lawV x a/\(List.length x.lows<=9223372036854775807/\List.length x.highs<=9223372036854775807)/\J3 W x a:=by
 obtain ⟨cs,rfl,_⟩:=okWide_struct Tryz.underlying59 hv;obtain ⟨fuel,hf⟩:=h;obtain ⟨x,a,h1,h2,h3,h4⟩:=openLawC (cs:=cs.toList) (by simpa [Value.cells] using hf);refine ⟨x,a,h1, ?_,h3,h4⟩;cases cs;simp only at h2;rw [h2]
end Go.Proofs.YtbekjpkcicjcgabGreat
