/-
 How the law's arguments read: structs of ints, slices of them; and the frame of a law that changes nothing that was there.
 Conditions: none.
-/
import Derived.ProofKit
import Derived.OpenShut
import Derived.ChangeOld
import Derived.Below
import Derived.Test.YtbekjpkcicjcgaaGreatGrN
set_option maxRecDepth 100000
namespace Go.Proofs.YtbekjpkcicjcgaaGreat
open Go.RowKit Go.ChangeShapes Go.WideShapes Go.ChangeAt Go.Deep
theorem own_:ownKnob Tryz.prog.godebug=none:=by kernel_rfl
theorem laidOut_:laidOutB Tryz.prog=true:=by kernel_rfl
theorem Je {n:Int} (h:(Lit.int .i64 n).wf=true):Yy n:=by
 simp [Lit.wf,IntKind.min,IntKind.max,IntKind.signed,IntKind.bits] at h;exact ⟨Oz,Oz⟩
def intsC (ns:List Int):List Value:=ns.map (Value.int .i64)
section
variable {H:Type} {enc:TypeId × Value->H} {P:Program} {w:World} {base:Nat} {spare:Nat->Bool} {held:Bool}
def allInts (P:Program) (fs:Array Field):Bool:=fs.toList.all λ f=>match P.underlying f.type with|some (.int .i64)=>true|_=>false
theorem open_ints_cells {fs:Array Field} {fuel:Nat} {t:TypeId} {cs:List Value} {x:DataW H × List MemPlace} (he:P.underlying t=some (.struct fs)) (hone:oneCellFields P fs=true) (hC:P.cellsOf t=fs.size)
 (hint:allInts P fs=true) (h:DataW.trod enc P w base spare held fuel t cs=some x) :
 ∃ ns:List Int,ns.length=fs.size/\(∀ n∈ns,Yy n)/\cs=intsC ns:=by
 obtain ⟨ys,n',_,_,hlen,hyl,hf⟩:=DataW.trod_struct he h;rw [hC] at hlen;have each:∀ j,j<fs.size->∃ n:Int,Yy n/\cs[j]? = some (.int .i64 n):=by
  intro j hj;have hfj:fs[j]? = some fs[j]:=Array.getElem?_eq_getElem hj;obtain ⟨ho,hk⟩:=hone_of hone j _ hfj;have hint':P.underlying fs[j].type=some (.int .i64):=by
   have:=List.all_eq_true.1 hint fs[j] Sz;split at this
   ·assumption
   ·cases this
  have h1:=hf j _ hfj;rw [ho,hk] at h1;have e1:(cs.drop j).take 1=[cs[j]' Oz]:=by
   rw [List.drop_eq_getElem_cons Oz];rfl
  rw [e1,List.getElem?_eq_getElem Oz] at h1;obtain ⟨n,hn,_,hwf⟩:=DataW.trod_int hint' h1;refine ⟨n,Je hwf, ?_⟩;rw [List.getElem?_eq_getElem Oz];simpa using hn
 obtain ⟨f,hf2⟩:=choose_lt each;refine ⟨(List.range fs.size).map f,Sz, ?_, ?_⟩
 ·intro n hn;simp only [List.mem_map,List.mem_range] at hn;obtain ⟨j,hj,rfl⟩:=hn;exact (hf2 j hj).1
 ·apply List.ext_getElem?;intro j;rcases Nat.lt_or_ge j fs.size with hj|hj
  ·rw [(hf2 j hj).2];simp [intsC,List.getElem?_range hj]
  ·rw [List.getElem?_eq_none Oz,List.getElem?_eq_none (by simp [intsC];omega)]
theorem open_slice_rows {fuel k:Nat} {t e:TypeId} {cs:List Value} {x:DataW H × List MemPlace} (ht:P.underlying t=some (.slice e)) (hk:P.cellsOf e=k)
 (hel:∀ n cs' x',DataW.trod enc P w base spare held n e cs'=some x'->∃ ns:List Int,ns.length=k/\(∀ n∈ns,Yy n)/\cs'=intsC ns)
 (hpos:0<k) (h:DataW.trod enc P w base spare held fuel t cs=some x) :
 ∃ A n cap,cs=[.slice A n cap]/\n<=9223372036854775807/\∃ rows:List (List Int),rows.length=n/\(∀ r∈rows,r.length=k/\∀ n∈r,Yy n)/\Sl k intsC w A rows:=by
 rcases open_slice ht h with ⟨hcs,_⟩|⟨a,len,cap,m,n,D,Pl,hcs,hb,hl,hm,hmm,hx,hi⟩
 ·exact ⟨_,_,_,hcs,Oz,[],rfl,Sz,λ h=>by simp at h⟩
 ·refine ⟨_,_,_,hcs,by unfold maxLen at hm;omega, ?_⟩;have hlm:len<=m:=by rw [hmm];split<;>omega
  have each:∀ i,i<len->∃ ns:List Int,ns.length=k/\(∀ n∈ns,Yy n)/\w.cells? base (a.add (i*k)) k=some (intsC ns):=by
   intro i hil;obtain ⟨cs',h1,h2⟩:=hi i Oz;obtain ⟨ns,h3,h4,h5⟩:=hel _ _ _ h2;rw [hk] at h1;exact ⟨ns,h3,h4,by rw [h1,h5]⟩
  obtain ⟨f,hf⟩:=choose_lt each;refine ⟨(List.range len).map f,Sz, ?_, ?_⟩
  ·intro r hr;simp only [List.mem_map,List.mem_range] at hr;obtain ⟨i,hil,rfl⟩:=hr;exact ⟨(hf i hil).1,(hf i hil).2.1⟩
  ·intro h0;simp at h0;obtain ⟨b,off,spot⟩:=a;have hspot:spot=none:=by
    obtain ⟨h3,h4,h5⟩:=hf 0 h0;obtain ⟨_,h6,h7⟩:=World.cells?_some h5;have h8:=h7 0 hpos;rw [List.getElem?_eq_getElem Oz] at h8;have:=World.cell?_spot h8;simpa [Addr.add] using this
   subst hspot;have hadd:∀ m:Nat,(⟨b,off,none⟩:Addr).add m=⟨b,off+m,none⟩:=by
    intro m;unfold Addr.add;split
    ·subst_vars;rfl
    ·rfl
   have hcell:∀ i,i<len->∀ j u,(intsC (f i))[j]? = some u->w.cell? ⟨b,off+i*k+j,none⟩=some u:=by
    intro i hil j u hu;obtain ⟨h3,h4,h5⟩:=hf i hil;obtain ⟨_,h6,h7⟩:=World.cells?_some h5;have hj:j<k:=by
     rcases Nat.lt_or_ge j k with h|h
     ·exact h
     ·rw [List.getElem?_eq_none Oz] at hu;cases hu
    have h8:=h7 j hj;rw [hu,add_add,hadd] at h8;rw [<- h8];congr 2;omega
   refine ⟨b,off,rfl, ?_, ?_⟩
   ·obtain ⟨h3,h4,h5⟩:=hf 0 h0;have hl3:0<(intsC (f 0)).length:=by simp [intsC];omega
    have:=hcell 0 h0 0 _ (List.getElem?_eq_getElem hl3);exact block_lt_of_cell this
   ·intro i hil j u hu;simp only [List.length_map,List.length_range] at hil;simp only [List.getElem_map,List.getElem_range] at hu;exact hcell i hil j u hu
theorem open_agg_ints {r:Reach} {b0:Nat} {t:TypeId} {fs:Array Field} {v:Value} {d:DataW H} {p:List MemPlace} (he:P.underlying t=some (.struct fs)) (hone:oneCellFields P fs=true) (hC:P.cellsOf t=fs.size)
 (hint:allInts P fs=true) (hv:Value.okWide P w r b0 t v) (h:DataW.Trod enc P w base spare held t v d p) :
 ∃ ns:List Int,ns.length=fs.size/\(∀ n∈ns,Yy n)/\v=.agg (intsC ns).toArray:=by
 obtain ⟨cs,rfl,X5⟩:=okWide_struct he hv;obtain ⟨fuel,hf⟩:=h;obtain ⟨ns,h1,h2,h3⟩:=open_ints_cells he hone hC hint hf;exact ⟨ns,h1,h2,by rw [<- h3];simp [Value.cells]⟩
theorem open_intS {fuel:Nat} {t e:TypeId} {cs:List Value} {x:DataW H × List MemPlace} (ht:P.underlying t=some (.slice e)) (he:P.underlying e=some (.int .i64)) (hk:P.cellsOf e=1)
 (h:DataW.trod enc P w base spare held fuel t cs=some x) :
 ∃ A cap,∃ xs:List Int,cs=[.slice A xs.length cap]/\xs.length<=9223372036854775807/\(∀ n∈xs,Yy n)/\Sl 1 Zm w A xs:=by
 obtain ⟨A,n,cap,hcs,hn,rows,hl,hr,hs⟩:=open_slice_rows (k:=1) ht hk (λ n cs' x' h'=>by
  obtain ⟨m,h1,_,h2⟩:=DataW.trod_int he h';exact ⟨[m],rfl,by simpa using Je h2,by simp [h1,intsC]⟩) Oz h
 refine ⟨A,cap,rows.map (λ r=>r.getD 0 0),by simp [hcs,hl],by simp;omega, ?_,hs.map _ ?_⟩
 ·intro x hx;simp only [List.mem_map] at hx;obtain ⟨r,hr',rfl⟩:=hx;match r,hr r hr' with
  | [a],h=>simpa using h.2 a Sz
 ·intro r hr';match r,hr r hr' with
  | [a],h=>rfl
end
theorem openRatio {H:Type} {enc:TypeId × Value->H} {W:World} {base b0:Nat} {spare:Nat->Bool} {held:Bool} {r:Reach} {v:Value} {d:DataW H} {p:List MemPlace}
 (hv:Value.okWide Tryz.prog W r b0 75 v) (h:DataW.Trod enc Tryz.prog W base spare held 75 v d p):∃ x:Yk,x.In/\v=Xv x:=by
 obtain ⟨ns,hl,hin,rfl⟩:=open_agg_ints Tryz.underlying75 (by kernel_rfl) (by kernel_rfl) (by kernel_rfl) hv h;refine ⟨mkRatio ns,mkRatio_In hl hin, ?_⟩;match ns,hl with
 | [a,b],_=>rfl
theorem openSpot {H:Type} {enc:TypeId × Value->H} {W:World} {base b0:Nat} {spare:Nat->Bool} {held:Bool} {r:Reach} {v:Value} {d:DataW H} {p:List MemPlace}
 (hv:Value.okWide Tryz.prog W r b0 74 v) (h:DataW.Trod enc Tryz.prog W base spare held 74 v d p):∃ x:X9,x.In/\v=YK x:=by
 obtain ⟨ns,hl,hin,rfl⟩:=open_agg_ints Tryz.underlying74 (by kernel_rfl) (by kernel_rfl) (by kernel_rfl) hv h;refine ⟨mkSpot ns,mkSpot_In hl hin, ?_⟩;match ns,hl with
 | [a,b,c],_=>rfl
theorem openHalfS {H:Type} {enc:TypeId × Value->H} {W:World} {base:Nat} {spare:Nat->Bool} {held:Bool} {fuel:Nat} {cs:List Value} {x:DataW H × List MemPlace}
 (h:DataW.trod enc Tryz.prog W base spare held fuel 67 cs=some x) :
 ∃ A cap xs,cs=[.slice A (List.length xs) cap]/\xs.length<=9223372036854775807/\(∀ x∈xs,Half.In x)/\Sl 3 Xd W A xs:=by
 obtain ⟨A,n,cap,hcs,hn,rows,hl,hr,hs⟩:=open_slice_rows (k:=3) Tryz.underlying67 (by kernel_rfl)
  (λ n cs' x' h'=>open_ints_cells Tryz.underlying179 (by kernel_rfl) (by kernel_rfl) (by kernel_rfl) h') Oz h
 refine ⟨A,cap,rows.map mkHalf, ?_,by simp;omega, ?_,hs.map mkHalf λ x hx=>mkHalf_C (hr x hx).1⟩
 ·simp [hcs,hl]
 ·intro x hx;simp only [List.mem_map] at hx;obtain ⟨r,hr',rfl⟩:=hx;exact mkHalf_In (hr r hr').1 (hr r hr').2
theorem openRegionC {H:Type} {enc:TypeId × Value->H} {W:World} {base:Nat} {spare:Nat->Bool} {held:Bool} {fuel:Nat} {cs:List Value} {y:DataW H × List MemPlace}
 (h:DataW.trod enc Tryz.prog W base spare held fuel 69 cs=some y) :
 ∃ (x:List Half) (a:Zi),RegionIn x/\cs=[.slice a.A (List.length x) a.c]/\(List.length x<=9223372036854775807)/\Y9 W x a:=by
 obtain ⟨xs,n,rfl,_,hl,hxl,hf⟩:=DataW.trod_struct Tryz.underlying69 h;have hl:cs.length=1:=hl.trans (by kernel_rfl);have hxl:xs.length=1:=hxl;match cs,hl with
 | [c0],_ =>
  have t0:DataW.trod enc Tryz.prog W base spare held n 67 [c0]=some (xs[0]' Oz):=by
   have q:DataW.trod enc Tryz.prog W base spare held n 67 (List.take (Tryz.prog.cellsOf 67) (List.drop 0 [c0]))=xs[0]?:=hf 0 _ rfl;rw [show Tryz.prog.cellsOf 67=1 from by kernel_rfl,List.getElem?_eq_getElem Oz] at q;exact q
  obtain ⟨A0,k0,s0,e0,l0,i0,S0⟩:=openHalfS t0;simp only [List.cons.injEq,and_true] at e0;subst e0;exact ⟨s0,⟨A0,k0⟩,⟨i0⟩,rfl,l0,⟨S0⟩⟩
theorem openRoomC {H:Type} {enc:TypeId × Value->H} {W:World} {base:Nat} {spare:Nat->Bool} {held:Bool} {fuel:Nat} {cs:List Value} {y:DataW H × List MemPlace}
 (h:DataW.trod enc Tryz.prog W base spare held fuel 71 cs=some y) :
 ∃ (x:XU) (a:Yn),Zh x/\cs=[.slice a.map.A (List.length x.map) a.map.c,.int .i64 x.div,.int .i64 x.bx,.int .i64 x.by_,.int .i64 x.low,.int .i64 x.high,.slice a.noise.A (List.length x.noise) a.noise.c,.slice a.limits.A (List.length x.limits) a.limits.c]/\(List.length x.map<=9223372036854775807/\List.length x.noise<=9223372036854775807/\List.length x.limits<=9223372036854775807)/\Ym W x a:=by
 obtain ⟨xs,n,rfl,_,hl,hxl,hf⟩:=DataW.trod_struct Tryz.underlying71 h;have hl:cs.length=8:=hl.trans (by kernel_rfl);have hxl:xs.length=8:=hxl;match cs,hl with
 | [c0,c1,c2,c3,c4,c5,c6,c7],_ =>
  have t0:DataW.trod enc Tryz.prog W base spare held n 23 [c0]=some (xs[0]' Oz):=by
   have q:DataW.trod enc Tryz.prog W base spare held n 23 (List.take (Tryz.prog.cellsOf 23) (List.drop 0 [c0,c1,c2,c3,c4,c5,c6,c7]))=xs[0]?:=hf 0 _ rfl;rw [show Tryz.prog.cellsOf 23=1 from by kernel_rfl,List.getElem?_eq_getElem Oz] at q;exact q
  have t1:DataW.trod enc Tryz.prog W base spare held n 3 [c1]=some (xs[1]' Oz):=by
   have q:DataW.trod enc Tryz.prog W base spare held n 3 (List.take (Tryz.prog.cellsOf 3) (List.drop 1 [c0,c1,c2,c3,c4,c5,c6,c7]))=xs[1]?:=hf 1 _ rfl;rw [show Tryz.prog.cellsOf 3=1 from by kernel_rfl,List.getElem?_eq_getElem Oz] at q;exact q
  have t2:DataW.trod enc Tryz.prog W base spare held n 3 [c2]=some (xs[2]' Oz):=by
   have q:DataW.trod enc Tryz.prog W base spare held n 3 (List.take (Tryz.prog.cellsOf 3) (List.drop 2 [c0,c1,c2,c3,c4,c5,c6,c7]))=xs[2]?:=hf 2 _ rfl;rw [show Tryz.prog.cellsOf 3=1 from by kernel_rfl,List.getElem?_eq_getElem Oz] at q;exact q
  have t3:DataW.trod enc Tryz.prog W base spare held n 3 [c3]=some (xs[3]' Oz):=by
   have q:DataW.trod enc Tryz.prog W base spare held n 3 (List.take (Tryz.prog.cellsOf 3) (List.drop 3 [c0,c1,c2,c3,c4,c5,c6,c7]))=xs[3]?:=hf 3 _ rfl;rw [show Tryz.prog.cellsOf 3=1 from by kernel_rfl,List.getElem?_eq_getElem Oz] at q;exact q
  have t4:DataW.trod enc Tryz.prog W base spare held n 3 [c4]=some (xs[4]' Oz):=by
   have q:DataW.trod enc Tryz.prog W base spare held n 3 (List.take (Tryz.prog.cellsOf 3) (List.drop 4 [c0,c1,c2,c3,c4,c5,c6,c7]))=xs[4]?:=hf 4 _ rfl;rw [show Tryz.prog.cellsOf 3=1 from by kernel_rfl,List.getElem?_eq_getElem Oz] at q;exact q
  have t5:DataW.trod enc Tryz.prog W base spare held n 3 [c5]=some (xs[5]' Oz):=by
   have q:DataW.trod enc Tryz.prog W base spare held n 3 (List.take (Tryz.prog.cellsOf 3) (List.drop 5 [c0,c1,c2,c3,c4,c5,c6,c7]))=xs[5]?:=hf 5 _ rfl;rw [show Tryz.prog.cellsOf 3=1 from by kernel_rfl,List.getElem?_eq_getElem Oz] at q;exact q
  have t6:DataW.trod enc Tryz.prog W base spare held n 69 [c6]=some (xs[6]' Oz):=by
   have q:DataW.trod enc Tryz.prog W base spare held n 69 (List.take (Tryz.prog.cellsOf 69) (List.drop 6 [c0,c1,c2,c3,c4,c5,c6,c7]))=xs[6]?:=hf 6 _ rfl;rw [show Tryz.prog.cellsOf 69=1 from by kernel_rfl,List.getElem?_eq_getElem Oz] at q;exact q
  have t7:DataW.trod enc Tryz.prog W base spare held n 69 [c7]=some (xs[7]' Oz):=by
   have q:DataW.trod enc Tryz.prog W base spare held n 69 (List.take (Tryz.prog.cellsOf 69) (List.drop 7 [c0,c1,c2,c3,c4,c5,c6,c7]))=xs[7]?:=hf 7 _ rfl;rw [show Tryz.prog.cellsOf 69=1 from by kernel_rfl,List.getElem?_eq_getElem Oz] at q;exact q
  obtain ⟨A0,k0,s0,e0,l0,i0,S0⟩:=open_intS Tryz.underlying23 Tryz.underlying3 (by kernel_rfl) t0;simp only [List.cons.injEq,and_true] at e0;subst e0;obtain ⟨a1,e1,_,w1⟩:=DataW.trod_int Tryz.underlying3 t1;simp only [List.cons.injEq,and_true] at e1;subst e1;obtain ⟨a2,e2,_,w2⟩:=DataW.trod_int Tryz.underlying3 t2;simp only [List.cons.injEq,and_true] at e2;subst e2;obtain ⟨a3,e3,_,w3⟩:=DataW.trod_int Tryz.underlying3 t3;simp only [List.cons.injEq,and_true] at e3;subst e3;obtain ⟨a4,e4,_,w4⟩:=DataW.trod_int Tryz.underlying3 t4;simp only [List.cons.injEq,and_true] at e4;subst e4;obtain ⟨a5,e5,_,w5⟩:=DataW.trod_int Tryz.underlying3 t5;simp only [List.cons.injEq,and_true] at e5;subst e5;obtain ⟨x6,a6,i6,e6,l6,S6⟩:=openRegionC t6;simp only [List.cons.injEq,and_true] at e6;subst e6;obtain ⟨x7,a7,i7,e7,l7,S7⟩:=openRegionC t7;simp only [List.cons.injEq,and_true] at e7;subst e7;exact ⟨⟨s0,a1,a2,a3,a4,a5,x6,x7⟩,⟨⟨A0,k0⟩,a6,a7⟩,⟨i0,Je w1,Je w2,Je w3,Je w4,Je w5,i6,i7⟩,rfl,⟨l0,l6,l7⟩,⟨S0,S6,S7⟩⟩
theorem openWatchC {H:Type} {enc:TypeId × Value->H} {W:World} {base:Nat} {spare:Nat->Bool} {held:Bool} {fuel:Nat} {cs:List Value} {y:DataW H × List MemPlace}
 (h:DataW.trod enc Tryz.prog W base spare held fuel 73 cs=some y) :
 ∃ (x:ZE) (a:ZF),WatchIn x/\cs=[.slice a.room.map.A (List.length x.room.map) a.room.map.c,.int .i64 x.room.div,.int .i64 x.room.bx,.int .i64 x.room.by_,.int .i64 x.room.low,.int .i64 x.room.high,.slice a.room.noise.A (List.length x.room.noise) a.room.noise.c,.slice a.room.limits.A (List.length x.room.limits) a.room.limits.c,.slice a.reg.A (List.length x.reg) a.reg.c,.slice a.log.A (List.length x.log) a.log.c]/\(List.length x.room.map<=9223372036854775807/\List.length x.room.noise<=9223372036854775807/\List.length x.room.limits<=9223372036854775807/\List.length x.reg<=9223372036854775807/\List.length x.log<=9223372036854775807)/\K6 W x a:=by
 obtain ⟨xs,n,rfl,_,hl,hxl,hf⟩:=DataW.trod_struct Tryz.underlying73 h;have hl:cs.length=10:=hl.trans (by kernel_rfl);have hxl:xs.length=3:=hxl;match cs,hl with
 | [c0,c1,c2,c3,c4,c5,c6,c7,c8,c9],_ =>
  have t0:DataW.trod enc Tryz.prog W base spare held n 71 [c0,c1,c2,c3,c4,c5,c6,c7]=some (xs[0]' Oz):=by
   have q:DataW.trod enc Tryz.prog W base spare held n 71 (List.take (Tryz.prog.cellsOf 71) (List.drop 0 [c0,c1,c2,c3,c4,c5,c6,c7,c8,c9]))=xs[0]?:=hf 0 _ rfl;rw [show Tryz.prog.cellsOf 71=8 from by kernel_rfl,List.getElem?_eq_getElem Oz] at q;exact q
  have t1:DataW.trod enc Tryz.prog W base spare held n 69 [c8]=some (xs[1]' Oz):=by
   have q:DataW.trod enc Tryz.prog W base spare held n 69 (List.take (Tryz.prog.cellsOf 69) (List.drop 8 [c0,c1,c2,c3,c4,c5,c6,c7,c8,c9]))=xs[1]?:=hf 1 _ rfl;rw [show Tryz.prog.cellsOf 69=1 from by kernel_rfl,List.getElem?_eq_getElem Oz] at q;exact q
  have t2:DataW.trod enc Tryz.prog W base spare held n 23 [c9]=some (xs[2]' Oz):=by
   have q:DataW.trod enc Tryz.prog W base spare held n 23 (List.take (Tryz.prog.cellsOf 23) (List.drop 9 [c0,c1,c2,c3,c4,c5,c6,c7,c8,c9]))=xs[2]?:=hf 2 _ rfl;rw [show Tryz.prog.cellsOf 23=1 from by kernel_rfl,List.getElem?_eq_getElem Oz] at q;exact q
  obtain ⟨x0,a0,i0,e0,l0,S0⟩:=openRoomC t0;simp only [List.cons.injEq,and_true] at e0;obtain ⟨rfl,rfl,rfl,rfl,rfl,rfl,rfl,rfl⟩:=e0;obtain ⟨x1,a1,i1,e1,l1,S1⟩:=openRegionC t1;simp only [List.cons.injEq,and_true] at e1;subst e1;obtain ⟨A2,k2,s2,e2,l2,i2,S2⟩:=open_intS Tryz.underlying23 Tryz.underlying3 (by kernel_rfl) t2;simp only [List.cons.injEq,and_true] at e2;subst e2;exact ⟨⟨x0,x1,s2⟩,⟨a0,a1,⟨A2,k2⟩⟩,⟨i0,i1,i2⟩,rfl,⟨l0.1,l0.2.1,l0.2.2,l1,l2⟩,⟨S0,S1,S2⟩⟩
theorem openWatch {H:Type} {enc:TypeId × Value->H} {W:World} {base b0:Nat} {spare:Nat->Bool} {held:Bool} {r:Reach} {v:Value} {d:DataW H} {p:List MemPlace}
 (hv:Value.okWide Tryz.prog W r b0 73 v) (h:DataW.Trod enc Tryz.prog W base spare held 73 v d p) :
 ∃ (x:ZE) (a:ZF),WatchIn x/\v=XO x a/\(List.length x.room.map<=9223372036854775807/\List.length x.room.noise<=9223372036854775807/\List.length x.room.limits<=9223372036854775807/\List.length x.reg<=9223372036854775807/\List.length x.log<=9223372036854775807)/\K6 W x a:=by
 obtain ⟨cs,rfl,_⟩:=okWide_struct Tryz.underlying73 hv;obtain ⟨fuel,hf⟩:=h;obtain ⟨x,a,h1,h2,h3,h4⟩:=openWatchC (cs:=cs.toList) (by simpa [Value.cells] using hf);refine ⟨x,a,h1, ?_,h3,h4⟩;cases cs;simp only at h2;rw [h2]
end Go.Proofs.YtbekjpkcicjcgaaGreat
