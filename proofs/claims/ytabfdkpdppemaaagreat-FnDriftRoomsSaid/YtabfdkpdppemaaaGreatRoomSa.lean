/-
 Valid rooms: of the reference, part a.
 Conditions: the slices hold at most 2^20 elements.
-/
import Derived.Test.YtabfdkpdppemaaaGreatRoom
import Derived.Deep.DrawnRows
import Derived.Test.YtabfdkpdppemaaaGreatGrW
import Derived.Test.YtabfdkpdppemaaaGreatCnr
import Derived.RegionTactic
import Derived.ChangeAlike
import Derived.Test.YtabfdkpdppemaaaGreatGrP
import Derived.Deep.DeepCutAuto
import Derived.Deep.RegionHeld3
set_option maxRecDepth 100000
namespace Go.Proofs.YtabfdkpdppemaaaGreat
open Go.RowKit
attribute [local go_sem ↓] Go.wp_at_zero Go.wp_at_succ
attribute [local go_sem ↓] Go.wp_at_zero Go.wp_at_succ
attribute [local go_sem ↓] Go.wp_at_zero Go.wp_at_succ
attribute [local go_sem ↓] Go.wp_at_zero Go.wp_at_succ
attribute [local go_sem ↓] Go.wp_at_zero Go.wp_at_succ
attribute [local go_sem ↓] Go.wp_at_zero Go.wp_at_succ
attribute [local go_sem ↓] Go.wp_at_zero Go.wp_at_succ
theorem regionOk_meetR {hs:List Half} (hok:∀ h∈hs,Xn h=true):Xl (Zg (Xp hs))=true:=by
 unfold Zg;split
 ·rename_i h
  exact J8 hok (by simpa [YW] using h)
 ·rfl
theorem roomOk_map {x:XH} (h:XT x=true):x.map.length=4:=by
 simp only [XT,J5,Bool.and_eq_true] at h;obtain ⟨m0,m1,m2,m3,e,_⟩:=map_four (by first|exact h.1.1.1.1.1.1.1.1|exact h.1.1.1.1.1.1.1|exact h.1.1.1.1.1.1|exact h.1.1.1.1.1|exact h.1.1.1.1|exact h.1.1.1|exact h.1.1);rw [e];rfl
theorem Yb.drew {w:World} {base:Nat} {x:XH} {a:Y7} (h:Yb w base x a):Yb w.drew base x a:=⟨h.map,⟨h.noise.halves⟩,⟨h.limits.halves⟩,h.apart⟩
end Go.Proofs.YtabfdkpdppemaaaGreat
namespace Go.Proofs.YtabfdkpdppemaaaGreat
open Go.RowKit Go.ChangeShapes Go.WideShapes Go.ChangeAt Go.Deep
def InB (n:Int):Prop:=0<=n/\n<=255
def bytesC (ns:List Int):=ns.map (Value.int .u8)
def Jw (n:Int):List Value:=[.int .u8 n]
theorem inB_of_wf {n:Int} (h:(Lit.int .u8 n).wf=true):InB n:=by
 simp [Lit.wf,IntKind.min,IntKind.max,IntKind.signed,IntKind.bits] at h;exact ⟨by omega,by omega⟩
section
variable {H:Type} {enc:TypeId × Value->H} {P:Program} {w:World} {base:Nat} {spare:Nat->Bool} {held:Bool}
theorem open_slice_rowsB {fuel k:Nat} {t e:TypeId} {cs:List Value} {x:DataW H × List MemPlace} (ht:P.underlying t=some (.slice e)) (hk:P.cellsOf e=k)
 (hel:∀ n cs' x',DataW.trod enc P w base spare held n e cs'=some x'->∃ ns:List Int,ns.length=k/\(∀ n∈ns,InB n)/\cs'=bytesC ns)
 (hpos:0<k) (h:DataW.trod enc P w base spare held fuel t cs=some x) :
 ∃ A n cap,cs=[.slice A n cap]/\n<=9223372036854775807/\∃ rows:List (List Int),rows.length=n/\(∀ r∈rows,r.length=k/\∀ n∈r,InB n)/\Sl k bytesC w A rows:=by
 rcases open_slice ht h with ⟨hcs,_⟩|⟨a,len,cap,m,n,D,Pl,hcs,hb,hl,hm,hmm,hx,hi⟩
 ·exact ⟨_,_,_,hcs,by omega,[],rfl,by simp,λ h=>by simp at h⟩
 ·refine ⟨_,_,_,hcs,by unfold maxLen at hm;omega, ?_⟩;have hlm:len<=m:=by rw [hmm];split<;>omega
  have each:∀ i,i<len->∃ ns:List Int,ns.length=k/\(∀ n∈ns,InB n)/\w.cells? base (a.add (i*k)) k=some (bytesC ns):=by
   intro i hil;obtain ⟨cs',h1,h2⟩:=hi i (by omega);obtain ⟨ns,h3,h4,h5⟩:=hel _ _ _ h2;rw [hk] at h1;exact ⟨ns,h3,h4,by rw [h1,h5]⟩
  obtain ⟨f,hf⟩:=choose_lt each;refine ⟨(List.range len).map f,by simp, ?_, ?_⟩
  ·intro r hr;simp only [List.mem_map,List.mem_range] at hr;obtain ⟨i,hil,rfl⟩:=hr;exact ⟨(hf i hil).1,(hf i hil).2.1⟩
  ·intro h0;simp at h0;obtain ⟨b,off,spot⟩:=a;have hspot:spot=none:=by
    obtain ⟨h3,h4,h5⟩:=hf 0 h0;obtain ⟨_,h6,h7⟩:=World.cells?_some h5;have h8:=h7 0 hpos;rw [List.getElem?_eq_getElem (by omega)] at h8;have:=World.cell?_spot h8;simpa [Addr.add] using this
   subst hspot;have hadd:∀ m:Nat,(⟨b,off,none⟩:Addr).add m=⟨b,off+m,none⟩:=by
    intro m;unfold Addr.add;split
    ·subst_vars;rfl
    ·rfl
   have hcell:∀ i,i<len->∀ j u,(bytesC (f i))[j]? = some u->w.cell? ⟨b,off+i*k+j,none⟩=some u:=by
    intro i hil j u hu;obtain ⟨h3,h4,h5⟩:=hf i hil;obtain ⟨_,h6,h7⟩:=World.cells?_some h5;have hj:j<k:=by
     rcases Nat.lt_or_ge j k with h|h
     ·exact h
     ·rw [List.getElem?_eq_none (by omega)] at hu;cases hu
    have h8:=h7 j hj;rw [hu,add_add,hadd] at h8;rw [<- h8];congr 2;omega
   refine ⟨b,off,rfl, ?_, ?_⟩
   ·obtain ⟨h3,h4,h5⟩:=hf 0 h0;have hl3:0<(bytesC (f 0)).length:=by simp [bytesC];omega
    have:=hcell 0 h0 0 _ (List.getElem?_eq_getElem hl3);exact block_lt_of_cell this
   ·intro i hil j u hu;simp only [List.length_map,List.length_range] at hil;simp only [List.getElem_map,List.getElem_range] at hu;exact hcell i hil j u hu
theorem open_byteS {fuel:Nat} {t e:TypeId} {cs:List Value} {x:DataW H × List MemPlace} (ht:P.underlying t=some (.slice e)) (he:P.underlying e=some (.int .u8)) (hk:P.cellsOf e=1)
 (h:DataW.trod enc P w base spare held fuel t cs=some x) :
 ∃ A cap,∃ xs:List Int,cs=[.slice A xs.length cap]/\xs.length<=9223372036854775807/\(∀ n∈xs,InB n)/\Sl 1 Jw w A xs:=by
 obtain ⟨A,n,cap,hcs,hn,rows,hl,hr,hs⟩:=open_slice_rowsB (k:=1) ht hk (λ n cs' x' h'=>by
  obtain ⟨m,h1,_,h2⟩:=DataW.trod_int he h';exact ⟨[m],rfl,by simpa using inB_of_wf h2,by simp [h1,bytesC]⟩) (by omega) h
 refine ⟨A,cap,rows.map (λ r=>r.getD 0 0),by simp [hcs,hl],by simp;omega, ?_,hs.map _ ?_⟩
 ·intro x hx;simp only [List.mem_map] at hx;obtain ⟨r,hr',rfl⟩:=hx;match r,hr r hr' with
  | [a],h=>simpa using h.2 a (by simp)
 ·intro r hr';match r,hr r hr' with
  | [a],h=>rfl
end
theorem openByteSV {H:Type} {enc:TypeId × Value->H} {W:World} {base b0:Nat} {spare:Nat->Bool} {held:Bool} {r:Reach} {v:Value} {d:DataW H} {p:List MemPlace}
 (hv:Value.okWide Tryz.prog W r b0 22 v) (h:DataW.Trod enc Tryz.prog W base spare held 22 v d p) :
 ∃ A cap,∃ xs:List Int,v=.slice A xs.length cap/\xs.length<=9223372036854775807/\(∀ y∈xs,InB y)/\Sl 1 Jw W A xs:=by
 obtain ⟨a0,len,cap,rfl⟩:=okWide_slice Tryz.underlying22 hv;obtain ⟨fuel,hf⟩:=h;obtain ⟨A,cap',xs,e1,h1,h2,h3⟩:=open_byteS Tryz.underlying22 Tryz.underlying5 (by kernel_rfl) hf;simp only [Value.cells,List.cons.injEq,and_true] at e1;exact ⟨A,cap',xs,e1,h1,h2,h3⟩
end Go.Proofs.YtabfdkpdppemaaaGreat
