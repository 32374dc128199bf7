/-
 Whether a region contains a point: of the program.
 Conditions: valid half planes, valid points.
-/
import Derived.Test.YtbekjpkcicjcgabGreatGrW
import Derived.Deep.RegionHeld3
import Derived.Deep.DeepMust
import Derived.Deep.DeepCutAuto
import Derived.Test.YtbekjpkcicjcgabGreatGrU
import Derived.Test.YtbekjpkcicjcgabGreatRoom
import Derived.Deep.DrawnRows
import Derived.Lib.SliceRun
namespace Go.Proofs.YtbekjpkcicjcgabGreat
open Go.RowKit
theorem XI.cap_ {α:Type} {T sz base n c:Nat} {enc:α->List Value} {w:World} {A:Option Addr} {xs:List α} (h:XI T sz enc w base (.slice A n c) xs):n<=c:=by
 obtain ⟨A',c',e,_,h2⟩:=h;injection e with e1 e2 e3
 subst e1 e2 e3;rcases h2 with ⟨h2,h3⟩|⟨g,cap',cur,hv,_,_,hn,_⟩
 ·omega
 ·injection hv with q1 q2 q3
  omega
theorem Jl {α:Type} {l:List α} {k:Nat} (h:k<l.length) (d:α):l.getD k d=l[k]:=by rw [List.getD_eq_getElem?_getD,List.getElem?_eq_getElem h,Option.getD_some]
theorem Ki {α:Type} {l:List α} {k:Nat} (h:k<l.length) (d:α):l.getD k d∈l:=by rw [Jl h];exact List.getElem_mem h
attribute [local go_sem ↓] Go.wp_at_zero Go.wp_at_succ
attribute [local go_sem ↓] Go.wp_at_zero Go.wp_at_succ
attribute [local go_sem ↓] Go.wp_at_zero Go.wp_at_succ
attribute [local go_sem ↓] Go.wp_at_zero Go.wp_at_succ
attribute [local go_sem ↓] Go.wp_at_zero Go.wp_at_succ
attribute [local go_sem ↓] Go.wp_at_zero Go.wp_at_succ
attribute [local go_sem ↓] Go.wp_at_zero Go.wp_at_succ
theorem XI.mk0 {α:Type} {T sz:Nat} {enc:α->List Value} (w:World):XI T sz enc (w.alloc (.cells #[] T)) w.heap.size (.slice (some ⟨w.heap.size,0,none⟩) 0 0) ([]:List α) :=
 ⟨_,0,rfl,by simp,.inr ⟨w.heap.size,0,#[],rfl,by simp,by have:=heap_alloc_new w (.cells #[] T);simpa using this,Nat.zero_le _,Nat.zero_le _,by simp,by simp⟩⟩
theorem X0.put {w:World} {g:Nat} {vs:List Value} (h:X0 w g vs) (j:Nat) (hj:j<vs.length) (u:Value):X0 (w.setCell ⟨g,j,none⟩ u) g (vs.set j u):=by
 refine ⟨by simpa [World.setCell] using h.1,λ i v hv=>?_⟩;by_cases e:i=j
 ·subst e;rw [List.getElem?_set_self hj] at hv;cases hv;have h2:=h.2 i _ (List.getElem?_eq_getElem hj);exact ⟨World.cell?_setCell_same' _ _ _ (by rw [h2.1];rfl),(World.frozen?_setCell _ _ _ _).trans h2.2⟩
 ·rw [List.getElem?_set_ne (Ne.symm e)] at hv;have h2:=h.2 i v hv;exact ⟨(World.cell?_setCell_other w _ _ u (λ q=>e (by injection q with _ q2 _;exact q2.symm))).trans h2.1,(World.frozen?_setCell _ _ _ _).trans h2.2⟩
set_option maxRecDepth 100000 in
theorem cloneHalf_c (A:Option Addr) (xs:List Half) (cap:Nat) (w:World) (hl:xs.length<=1048576) (hs:Sl 3 Xe w A xs) :
 Calls Tryz.prog 86 #[.slice A xs.length cap] w λ e w'=>∃ v,e=.returned v/\XI 85 3 Xe w' w.heap.size v xs/\Below w.heap.size w w':=by
 obtain ⟨i0,hi0,hz0,hz1,hz2⟩:=info_parts (show (Tryz.prog.info? 85).map (λ i=>(i.zero,i.size,i.bytes))=some (some (.agg #[.int .i64 0,.int .i64 0,.int .i64 0]),3,24) by kernel_rfl);have hnil:=λ W n=>Lib.run_eql_slice_nil (P:=Tryz.prog) W 24 _ A n cap 0 0 Tryz.underlying24;cases A with
 | none =>
  have hx:xs=[]:=by
   apply List.eq_nil_of_length_eq_zero;apply Nat.eq_zero_of_not_pos;intro h0;obtain ⟨b,off,e,_⟩:=hs h0;cases e
  subst hx;go_enter Tryz.func86,Tryz.ntmps86
  go_wp2
  go_ret
  refine ⟨_,rfl,⟨none,0,rfl,by simp,.inl ⟨rfl,rfl⟩⟩, ?_⟩;exact Xn
 | some p =>
  have N0:XI 85 3 Xe (w.alloc (.cells #[] 85)) w.heap.size (.slice (some ⟨w.heap.size,0,none⟩) 0 0) []:=XI.mk0 w;have b0:Below w.heap.size w (w.alloc (.cells #[] 85)):=by
   exact Xn
  have hs0:=hs.below b0;have hz30:([]:List Half).length+xs.length<=1073741824:=by simp only [List.length_nil];omega
  go_enter Tryz.func86,Tryz.ntmps86
  go_wp2_with (at_builtin;refine JM Xu _ rfl _ _ 24 rfl w.heap.size i0 _ 24 Tryz.underlying24 hi0 hz0 hz1 hz2 rfl (by decide) rfl N0 (some p) cap rfl hs0 (λ e=>by cases e) YR b0 (by simp) hz30 (by decide) ?_)
  intro v1 w1 N1 hb1;go_wp2
  go_ret
  exact ⟨_,rfl,N1,hb1⟩
theorem XI.lowC {α:Type} {T sz base:Nat} {enc:α->List Value} {v:Value} {xs:List α} {w:World} (h:XI T sz enc w base v xs) {q:Addr} (hq:q.block<base) (us:List Value):XI T sz enc (w.setCells q.block q.off us) base v xs:=by
 induction us generalizing w q with
 | nil=>exact h
 | cons u r ih=>exact ih (q:=⟨q.block,q.off+1,none⟩) (h.set_ (p:=⟨q.block,q.off,none⟩) hq u) hq
theorem XJ.lowC {w:World} {base:Nat} {x:List Half} {a:ZC} (h:XJ w base x a) {q:Addr} (hq:q.block<base) (us:List Value):XJ (w.setCells q.block q.off us) base x a:=⟨h.halves.lowC hq us⟩
structure X9 (w w':World) (L:List ZC):Prop where
 os:w'.os=w.os
 tape:w'.tape=w.tape
 output:w'.output=w.output
 size:w.heap.size<=w'.heap.size
 block:∀ k,k<w.heap.size->(∀ a∈L,∀ p,a.A=some p->p.block≠k)->w'.heap[k]? = w.heap[k]?
theorem X9.refl (w:World) (L:List ZC):X9 w w L:=⟨rfl,rfl,rfl,Nat.le_refl _,λ _ _ _=>rfl⟩
theorem X9.trans {a b c:World} {L:List ZC} (h:X9 a b L) (k:X9 b c L):X9 a c L :=
 ⟨k.os.trans h.os,k.tape.trans h.tape,k.output.trans h.output,Nat.le_trans h.size k.size,λ i hi hn=>(k.block i (Nat.lt_of_lt_of_le hi h.size) hn).trans (h.block i hi hn)⟩
theorem X9.mono {a b:World} {L L':List ZC} (h:X9 a b L) (hs:∀ x∈L,x∈L'):X9 a b L' :=
 ⟨h.os,h.tape,h.output,h.size,λ i hi hn=>h.block i hi (λ x hx=>hn x (hs x hx))⟩
theorem X9.of_below {a b:World} (h:Below a.heap.size a b) (L:List ZC):X9 a b L:=⟨h.os,h.tape,h.output,h.size,λ i hi _=>h.block i hi⟩
theorem X9.below {a b:World} {L:List ZC} {B:Nat} (h:X9 a b L) (hB:B<=a.heap.size) (hL:∀ x∈L,∀ p,x.A=some p->B<=p.block):Below B a b :=
 ⟨h.os,h.tape,h.output,h.size,λ i hi=>h.block i (Nat.lt_of_lt_of_le hi hB) (λ x hx p hp e=>by have:=hL x hx p hp;omega)⟩
theorem X9.setCells {w:World} {g c:Nat}:∀ (vs:List Value) (o:Nat) (W:World),X9 w W [⟨some ⟨g,0,none⟩,c⟩]->X9 w (W.setCells g o vs) [⟨some ⟨g,0,none⟩,c⟩]
 | [],_,_,h=>h
 | v :: r,o,W,h=>X9.setCells r (o+1) _ (h.trans ⟨rfl,rfl,rfl,by simp [World.setCell],λ k _ hk=>heap_setCell_other W ⟨g,o,none⟩ k v (λ e=>by
  have:=hk _ (List.mem_singleton.2 rfl) _ rfl;simp only [ne_eq] at this;first|exact this e|exact this e.symm)⟩)
theorem XI.far {α:Type} {T sz base n c:Nat} {enc:α->List Value} {w w':World} {A:Option Addr} {xs:List α} {L:List ZC} (h:XI T sz enc w base (.slice A n c) xs) (ho:X9 w w' L) (ha:∀ b∈L,Jf ⟨A,c⟩ b):XI T sz enc w' base (.slice A n c) xs:=by
 obtain ⟨A',c',e,h1,h2⟩:=h;refine ⟨A',c',e,h1, ?_⟩;rcases h2 with h2|⟨g,cap',cur,hv,hg,hh,r⟩
 ·exact .inl h2
 ·refine .inr ⟨g,cap',cur,hv,hg,(ho.block g (YD hh) (λ b hb p hp=>?_)).trans hh,r⟩;injection hv with hv _ _
  injection e with e _ _
  exact λ e2=>ha b hb ⟨g,0,none⟩ p hv hp e2.symm
theorem XI.lo {α:Type} {T sz base n c:Nat} {enc:α->List Value} {w:World} {A:Option Addr} {xs:List α} (h:XI T sz enc w base (.slice A n c) xs):∀ p,A=some p->base<=p.block:=λ p hp=>(h.blk p hp).1
theorem X0.far {w w':World} {g:Nat} {vs:List Value} {L:List ZC} (h:X0 w g vs) (ho:X9 w w' L) (hn:∀ a∈L,∀ p,a.A=some p->p.block≠g):X0 w' g vs:=by
 have hb:=ho.block g h.1 hn;refine ⟨Nat.lt_of_lt_of_le h.1 ho.size,λ j u hu=>?_⟩;have h2:=h.2 j u hu;exact ⟨(World.cell?_of_block (w:=w) hb).trans h2.1,(World.frozen?_of_block (w:=w) hb).trans h2.2⟩
theorem Sl.far {α:Type} {sz c:Nat} {enc:α->List Value} {w w':World} {A:Option Addr} {xs:List α} {L:List ZC} (h:Sl sz enc w A xs) (ho:X9 w w' L) (ha:∀ b∈L,Jf ⟨A,c⟩ b):Sl sz enc w' A xs:=by
 intro hn;obtain ⟨b,off,rfl,hlt,hc⟩:=h hn;refine ⟨b,off,rfl,Nat.lt_of_lt_of_le hlt ho.size,λ i hi j u hu=>?_⟩;exact (World.cell?_of_block (w:=w) (a:=⟨b,off+i*sz+j,none⟩) (ho.block b hlt (λ x hx p hp e=>ha x hx ⟨b,off,none⟩ p rfl hp e.symm))).trans (hc i hi j u hu)
theorem XI.same {α:Type} {T sz base n:Nat} {enc:α->List Value} {w:World} {v:Value} {xs:List α} (h:XI T sz enc w base v xs) (hl:xs.length=n):∃ A c,v=.slice A n c/\XI T sz enc w base (.slice A n c) xs:=by
 obtain ⟨A,c,rfl,ho⟩:=h;subst hl;exact ⟨A,c,rfl,A,c,rfl,ho⟩
theorem X9.cell {w w':World} {L:List ZC} (h:X9 w w' L) {g:Nat} (hg:g<w.heap.size) (hn:∀ a∈L,∀ p,a.A=some p->p.block≠g):∀ o,w'.cell? ⟨g,o,none⟩=w.cell? ⟨g,o,none⟩ :=
 λ o=>World.cell?_of_block (w:=w) (a:=⟨g,o,none⟩) (h.block g hg hn)
theorem Blk.lo {lo hi B:Nat} {a:ZC} (h:Blk lo hi a) (hB:B<=lo):∀ p,a.A=some p->B<=p.block:=λ p hp=>by have:=h p hp;omega
theorem all1 {α:Type} {P:α->Prop} {a:α} (h:P a):∀ x∈[a],P x:=λ x hx=>by rw [List.mem_singleton.1 hx];exact h
def JS (k:Int) (n:Nat):List Int:=(List.range n).map λ(i:Nat)=>k+i
structure RoomMk (w:World) (x:XK) (a:Yq) (K:Int):Prop where
 map:Sl 1 KX w a.map.A (JS K x.map.length)
 noise:Sl 3 Xe w a.noise.A (YZ (K+x.map.length) x.noise.length)
 limits:Sl 3 Xe w a.limits.A (YZ (K+x.map.length+x.noise.length*3) x.limits.length)
theorem RoomMk.below {w w':World} {x:XK} {a:Yq} {K:Int} (h:RoomMk w x a K) (hb:Below w.heap.size w w'):RoomMk w' x a K:=⟨h.map.below hb,h.noise.below hb,h.limits.below hb⟩
def BlkL (lo hi:Nat) (L:List ZC):Prop:=∀ a∈L,Blk lo hi a
theorem BlkL.ne {lo hi g:Nat} {L:List ZC} (h:BlkL lo hi L) (hg:g<lo∨hi<=g):∀ a∈L,∀ p,a.A=some p->p.block≠g:=by
 intro a ha p hp;have:=h a ha p hp;omega
theorem BlkL.lo {lo hi B:Nat} {L:List ZC} (h:BlkL lo hi L) (hB:B<=lo):∀ a∈L,∀ p,a.A=some p->B<=p.block:=by
 intro a ha p hp;have:=h a ha p hp;omega
theorem BlkL.apart {lo hi lo' hi':Nat} {L L':List ZC} (h:BlkL lo hi L) (h':BlkL lo' hi' L') (hle:hi<=lo'∨hi'<=lo):∀ a∈L,∀ b∈L',Jf a b:=by
 intro a ha b hb p q hp hq e;have:=h a ha p hp;have:=h' b hb q hq;omega
theorem BlkL.mono {lo hi lo' hi':Nat} {L:List ZC} (h:BlkL lo hi L) (h1:lo'<=lo) (h2:hi<=hi'):BlkL lo' hi' L:=by
 intro a ha p hp;have:=h a ha p hp;omega
theorem XI.blkL {α:Type} {T sz base n c:Nat} {enc:α->List Value} {w:World} {A:Option Addr} {xs:List α} (h:XI T sz enc w base (.slice A n c) xs):BlkL base w.heap.size [⟨A,c⟩]:=all1 h.blk
theorem XJ.blkL {w:World} {base:Nat} {x:List Half} {a:ZC} (h:XJ w base x a):BlkL base w.heap.size [a]:=all1 h.blk
theorem Yi.blkL {w:World} {base:Nat} {x:XK} {a:Yq} (h:Yi w base x a):BlkL base w.heap.size [a.map,a.noise,a.limits]:=by
 intro b hb;simp only [List.mem_cons,List.not_mem_nil,or_false] at hb;obtain ⟨h0,h1,h2⟩:=h.blk;rcases hb with rfl|rfl|rfl<;>assumption
theorem YM.blkL {w:World} {base:Nat} {x:Watch} {a:JY} (h:YM w base x a):BlkL base w.heap.size [a.room.map,a.room.noise,a.room.limits,a.reg,a.log]:=by
 intro b hb;simp only [List.mem_cons,List.not_mem_nil,or_false] at hb;obtain ⟨h0,h1,h2,h3,h4⟩:=h.blk;rcases hb with rfl|rfl|rfl|rfl|rfl<;>assumption
theorem YN.blkL {w:World} {base:Nat} {x:Track} {a:JZ} (h:YN w base x a):BlkL base w.heap.size [a.spots,a.inputs]:=by
 intro b hb;simp only [List.mem_cons,List.not_mem_nil,or_false] at hb;obtain ⟨h0,h1⟩:=h.blk;rcases hb with rfl|rfl<;>assumption
theorem XS.blkL {w:World} {base:Nat} {x:KS} {a:KW} (h:XS w base x a):BlkL base w.heap.size [a.lows,a.highs]:=by
 intro b hb;simp only [List.mem_cons,List.not_mem_nil,or_false] at hb;obtain ⟨h0,h1⟩:=h.blk;rcases hb with rfl|rfl<;>assumption
end Go.Proofs.YtbekjpkcicjcgabGreat
