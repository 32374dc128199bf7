/-
 The meet of a valid region and half planes: its edges are edges of the one or among the others, so it is valid again; the order of the half planes doesn't matter. No program is named here.
 Conditions: none.
-/
import Derived.Test.YtkjimfapbjdafaaGreatGrUQg
import Derived.Test.YtkjimfapbjdafaaGreatGrUQh
import Derived.Lib.SliceRun
import Derived.Deep.RegionHeld3
import Derived.Deep.DeepMust
import Derived.Deep.DeepCutAuto
set_option maxRecDepth 100000
namespace Go.Proofs.YtkjimfapbjdafaaGreat
open Go.RowKit
theorem regionOk_meetR {hs:List Half} (hok:∀ h∈hs,XW h=true):Xf (Yx (XH hs))=true:=by
 unfold Yx;split
 ·rename_i h
  exact regionOk_meet hok (by simpa [Zl] using h)
 ·rfl
theorem tight_sub {a b:List Half} (ha:∀ h∈a,XW h=true) (hb:∀ h∈b,XW h=true) (h:∀ x,x∈a ↔ x∈b):∀ x∈Kk a,x∈Kk b:=by
 intro x hx;have c1:=Z5 (hs:=a) (λ f hf=>(hOk (ha f hf)).n);have c2:=Z5 (hs:=b) (λ f hf=>(hOk (hb f hf)).n);have xa:=c1.mem x hx;obtain ⟨y,hy,cy⟩:=c2.cov x ((h x).1 xa);have yb:=c2.mem y hy;obtain ⟨z,hz,cz⟩:=c1.cov y ((h y).2 yb);have za:=c1.mem z hz;have s:=same_trans (hOk (ha z za)).n (hOk (hb y yb)).n cz.1 cy.1;have e:=c1.sorted.same (λ f hf=>(hOk (ha f (c1.mem f hf))).n) hz hx s;subst e;have:=half_eq (hb y yb) (ha z za) cy.1 (by have:=cy.2;have:=cz.2;omega);subst this;exact hy
theorem meetL_ext {a b:List Half} (ha:∀ h∈a,XW h=true) (hb:∀ h∈b,XW h=true) (h:∀ x,x∈a ↔ x∈b):XH a=XH b:=by
 have h1:∀ x,x∈KG++a ↔ x∈KG++b:=λ x=>by rw [List.mem_append,List.mem_append,h x]
 have n1:=λ f hf=>(hOk (Ky ha f hf)).n;have n2:=λ f hf=>(hOk (Ky hb f hf)).n;exact gsorted_ext (Z5 n1).sorted (Z5 n2).sorted (λ x=>⟨tight_sub (Ky ha) (Ky hb) h1 x,tight_sub (Ky hb) (Ky ha) (λ y=>(h1 y).symm) x⟩)
section
variable {W w w':World} {a:Act} {s T g g':Nat} {z:List Value} {b:Bool} {C:World->List Value->Prop} {k:Option Nat} {v:Value}
theorem ptr_ne (h:g≠g'):Value.pointer (some ⟨g,0,none⟩)≠.pointer (some ⟨g',0,none⟩):=by
 intro q;injection q with q;injection q with q;injection q with q;exact h q
end
section
variable {P:Program} {o:Oper} {a:Act} {w:World} {N:Act->World->Prop} {Q:Exit->Act->World->Prop}
end
section
variable {K:Act->World->Prop} {Q:Exit->Act->World->Prop} {a:Act} {w:World} {i k:Nat}
end
theorem wnt_u {o oj:Oper} {ops:Array Oper} {a:Act} {R S:Prop} {j s:Nat} {b:Bool} (hg:o.guard=some (j,b)) (hj:ops[j]? = some oj) (hd:oj.dst=some s) (hv:a.tmps[s]?.getD undef=undef) (h:S):if Region.wanted o (yielded ops a.tmps)=true then R else S:=by
 rw [if_neg]
 ·exact h
 ·unfold Region.wanted;rw [hg];simp only [yielded,hj,Option.bind_some,hd];cases e:a.tmps[s]? with
  | none=>simp
  | some v =>
   rw [e] at hv;simp only [Option.getD_some] at hv;rw [hv];simp [undef]
theorem cloneHalf_c (A:Option Addr) (xs:List Half) (cap:Nat) (w:World) (hl:xs.length<=1048576) (hs:Sl 3 Xk w A xs) :
 Calls Tryz.prog 177 #[.slice A xs.length cap] w λ e w'=>∃ v,e=.returned v/\XI 175 3 Xk w' w.heap.size v xs/\Below w.heap.size w w':=by
 obtain ⟨i0,hi0,hz0,hz1,hz2⟩:=info_parts (show (Tryz.prog.info? 175).map (λ i=>(i.zero,i.size,i.bytes))=some (some (.agg #[.int .i64 0,.int .i64 0,.int .i64 0]),3,24) by kernel_rfl);have hnil:=λ W n=>Lib.run_eql_slice_nil (P:=Tryz.prog) W 35 _ A n cap 0 0 Tryz.underlying35;cases A with
 | none =>
  have hx:xs=[]:=by
   apply List.eq_nil_of_length_eq_zero;apply Nat.eq_zero_of_not_pos;intro h0;obtain ⟨b,off,e,_⟩:=hs h0;cases e
  subst hx;go_enter Tryz.func177,Tryz.ntmps177
  go_wp2
  go_ret
  refine ⟨_,rfl,⟨none,0,rfl,by simp,.inl ⟨rfl,rfl⟩⟩, ?_⟩;exact XA
 | some p =>
  have N0:XI 175 3 Xk (w.alloc (.cells #[] 175)) w.heap.size (.slice (some ⟨w.heap.size,0,none⟩) 0 0) []:=XI.mk0 w;have b0:Below w.heap.size w (w.alloc (.cells #[] 175)):=by
   exact XA
  have hs0:=hs.below b0;have hz30:([]:List Half).length+xs.length<=1073741824:=by simp only [List.length_nil];omega
  go_enter Tryz.func177,Tryz.ntmps177
  go_wp2_with (at_builtin;refine JU XD _ rfl _ _ 35 rfl w.heap.size i0 _ 24 Tryz.underlying35 hi0 hz0 hz1 hz2 rfl (by decide) rfl N0 (some p) cap rfl hs0 (λ e=>by cases e) ZH b0 (by simp) hz30 (by decide) ?_)
  intro v1 w1 N1 hb1;go_wp2
  go_ret
  exact ⟨_,rfl,N1,hb1⟩
theorem JN (p:List Half) (a:ZY) (w:World) (hl:p.length<=1048576) (hs:Sl 3 Xk w a.A p) :
 Calls Tryz.prog 103 #[Zb p a] w λ e w'=>∃ b,e=.returned (Zb p b)/\XT w' w.heap.size p b/\Below w.heap.size w w':=by
 have c1:=λ W h=>cloneHalf_c a.A p a.c W hl h;have hs0:=(hs.alloc (.cells #[.slice a.A p.length a.c] 37)).alloc (.cells #[.slice none 0 0] 37);have H0:YI ((w.alloc (.cells #[.slice a.A p.length a.c] 37)).alloc (.cells #[.slice none 0 0] 37)) (w.heap.size+1) [.slice none 0 0]:=by
  exact Zp
 have b0:Below w.heap.size w ((w.alloc (.cells #[.slice a.A p.length a.c] 37)).alloc (.cells #[.slice none 0 0] 37)):=by
  exact XA
 go_enter Tryz.func103,Tryz.ntmps103
 go_wp2_with (fail)
 refine (c1 _ hs0).mono ?_;rintro e w1 ⟨v1,rfl,N1,hb1⟩;have H1:=H0.below hb1;have l1:=H1.1;have b1:=Xn b0 hb1;obtain ⟨A1,k1,rfl,ho⟩:=N1;have N1:XI 175 3 Xk w1 _ (.slice A1 p.length k1) p:=⟨A1,k1,rfl,ho⟩;simp only [World.size_alloc] at N1;clear ho hb1 H0 b0 hs0;obtain ⟨cH1_0,fH1_0⟩:=H1.2 0 _ rfl;go_wp2
 refine bodyPost_ret (v:=.agg #[.slice A1 p.length k1]) (by simp [results,Tryz.results103,go_sem,cH1_0]) rfl ⟨⟨A1,k1⟩,rfl,⟨?_⟩, ?_⟩
 ·exact (N1.set_ (by simp only;omega) _).mono (by omega)
 ·exact b1.setCell (by simp only;omega) _
theorem step_app0 {α:Type} {T sz:Nat} {enc:α->List Value} (YT:∀ x,(enc x).length=sz) {P:Program} {o:Oper} {a:Act} {w:World} {K:Act->World->Prop} {Q:Exit->Act->World->Prop} (s x:Operand) (t:TypeId)
 (ho:o.op=.call { callee:=.builtin .append,args:=#[s,x],argTypes:=#[t,t] })
 (base:Nat) (i:TypeInfo) (z:Value) (bytes:Nat) (ht:P.underlying t=some (.slice T)) (hi:P.info? T=some i) (hz:i.zero=some z)
 (hsize:i.size=sz) (hby:i.bytes=bytes) (hzs:z.cells.size=sz) (hpos:0<sz)
 {p:Addr} {ys:List α} (hs:a.eval s=.slice (some p) 0 0) (hown:XI T sz enc w base (.slice (some p) 0 0) ([]:List α))
 (B:Option Addr) (c:Nat) (hx:a.eval x=.slice B ys.length c) (hys:Sl sz enc w B ys) (hnil:B=none->c=0)
 (hbase:base<=w.heap.size) (hn:ys.length<=1073741824) (hbytes:bytes<=128)
 (hK:∀ v' w',XI T sz enc w' base v' ys->Below w.heap.size w w'->K (a.put o.dst v') w'):Oper.wp P o a w K Q:=by
 have run:∃ v' w',(Builtin.append_ #[t,t] o.type #[.slice (some p) 0 0,.slice B ys.length c]).run P w=.ok v' w'/\XI T sz enc w' base v' ys/\Below w.heap.size w w':=by
  by_cases h0:ys.length=0
  ·have hy:ys=[]:=List.eq_nil_of_length_eq_zero h0;subst hy;refine ⟨_,_, ?_,hown,Below.refl _ _⟩;cases B with
   | none=>have:=hnil rfl;subst this;simp [Builtin.append_,run_underlying ht,sizeOf,typeInfo,hi,Builtin.lenOf,Builtin.firstCells,storeCells]
   | some ad=>simp [Builtin.append_,run_underlying ht,sizeOf,typeInfo,hi,Builtin.lenOf,Builtin.firstCells,storeCells,loadCells,loadCellsFrom]
  ·obtain ⟨b,off,hB,_,hc⟩:=hys (by omega);subst hB;have hb2:ys.length*bytes<=1073741824*128:=Nat.mul_le_mul hn hbytes;obtain ⟨v',w',hrun,hown',hg⟩:=run_append_arg_grows (P:=P) (w:=w) t o.type T i z sz bytes ht hi hz hsize hby hzs hpos p 0 0 [] (by simp) (λ j u hu=>by simp at hu) ⟨b,off,none⟩ ys.length c (ys.flatMap enc) (ZX YT ys) (λ j u hu=>by
    rw [Addr.add_lit];have hjl:j<ys.length*sz:=by
     rw [<- ZX YT ys];rcases Nat.lt_or_ge j (ys.flatMap enc).length with h3|h3
     ·exact h3
     ·rw [List.getElem?_eq_none h3] at hu;cases hu
    have hq:j / sz<ys.length:=Nat.div_lt_of_lt_mul (by rw [Nat.mul_comm];exact hjl);have hm:j % sz<sz:=Nat.mod_lt _ hpos;have hjj:j / sz*sz+j % sz=j:=by rw [Nat.mul_comm];exact Nat.div_add_mod j sz
    have hu2:(enc ys[j / sz])[j % sz]? = some ((enc ys[j / sz])[j % sz]'(by rw [YT];exact hm)):=List.getElem?_eq_getElem _;have h4:=flatMap_at YT ys _ hq _ _ hu2;rw [hjj,hu] at h4;have h5:=hc _ hq _ _ hu2;rw [Nat.add_assoc,hjj,<- h4] at h5;exact h5) (by omega) (by unfold maxLen;omega) (by rw [Nat.zero_add];omega)
   refine ⟨v',w',hrun, ?_,bR.grown hg Xh (λ k e=>by cases e)⟩;rw [Nat.zero_add,List.nil_append] at hown';exact (XI.mk' rfl hown').mono hbase
 obtain ⟨v',w',hrun,hN,hB⟩:=run;unfold Oper.wp;simp [execOp,ho,resolve,invoke,builtin,hs,hx,hrun,Result.andThen];exact hK v' w' hN hB
end Go.Proofs.YtkjimfapbjdafaaGreat
