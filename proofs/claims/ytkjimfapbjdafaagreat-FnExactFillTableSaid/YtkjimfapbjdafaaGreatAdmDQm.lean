/-
 The inputs that are admitted under a drift: of the program and of the reference.
 Conditions: the slices hold at most 2^20 elements.
-/
import Derived.Test.YtkjimfapbjdafaaGreatGrXgQm
import Derived.ProofKit
import Derived.OpenShut
import Derived.ChangeOld
import Derived.Below
import Derived.Deep.QuietTactic
import Derived.BigQuiet
set_option maxRecDepth 100000
namespace Go.Proofs.YtkjimfapbjdafaaGreat
open Go.RowKit
theorem accS_ok {A:Ya->Option ZP} (hA:∀ t v,A t=some v->Yg v=true) {l:List Ya} {k:Nat} {v:ZP} (h:JS A l (k+1)=some v):Yg v=true:=by
 rw [JS] at h;cases e:JS A l k with
 | none=>rw [e] at h;cases h
 | some x =>
  rw [e] at h;simp only [Option.bind_some] at h;cases e2:A (l.getD k XU) with
  | none=>rw [e2] at h;cases h
  | some y =>
   rw [e2] at h;simp only [Option.bind_some] at h;split at h
   ·cases h;exact hA _ _ e2
   ·exact meetSp_ok h
end Go.Proofs.YtkjimfapbjdafaaGreat
namespace Go.Proofs.YtkjimfapbjdafaaGreat
open Go.RowKit Go.ChangeShapes Go.WideShapes Go.ChangeAt Go.Deep
section
variable {H:Type} {enc:TypeId × Value->H} {P:Program} {w:World} {base:Nat} {spare:Nat->Bool} {held:Bool}
theorem open_int1 {r:Reach} {b0:Nat} {t:TypeId} {v:Value} {d:DataW H} {p:List MemPlace} (he:P.underlying t=some (.int .i64)) (hv:Value.okWide P w r b0 t v) (h:DataW.Trod enc P w base spare held t v d p):∃ a:Int,Zv a/\v=.int .i64 a:=by
 obtain ⟨x,rfl,_,_,wx⟩:=open_int he hv h;exact ⟨x,KS wx,rfl⟩
end
theorem open_cells1 {H:Type} {enc:TypeId × Value->H} {P:Program} {w:World} {base:Nat} {spare:Nat->Bool} {held:Bool} {r:Reach} {b0:Nat} {t:TypeId} {fs:Array Field} {v:Value} {d:DataW H} {p:List MemPlace}
 (he:P.underlying t=some (.struct fs)) (hone:oneCellFields P fs=true) (hC:P.cellsOf t=fs.size) (hv:Value.okWide P w r b0 t v) (h:DataW.Trod enc P w base spare held t v d p) :
 ∃ cs:List Value,cs.length=fs.size/\v=.agg cs.toArray/\∀ (j:Nat) (f:Field),fs[j]? = some f->∃ c y n,cs[j]? = some c/\DataW.trod enc P w base spare held n f.type [c]=some y:=by
 obtain ⟨cs,rfl,YT⟩:=okWide_struct he hv;obtain ⟨fuel,hf⟩:=h;obtain ⟨ys,n',_,_,hlen,hyl,hf⟩:=DataW.trod_struct he hf;rw [hC] at hlen;refine ⟨cs.toList,by simpa [Value.cells] using hlen,by simp,λ j f hj=>?_⟩;have hjl:j<fs.size:=(Array.getElem?_eq_some_iff.1 hj).1;obtain ⟨ho,hk⟩:=hone_of hone j f hj;have h1:=hf j f hj;simp only [Value.cells] at h1 hlen;rw [ho,hk] at h1;have e1:(cs.toList.drop j).take 1=[cs.toList[j]'(by omega)]:=by
  rw [List.drop_eq_getElem_cons (by omega)];rfl
 rw [e1,List.getElem?_eq_getElem (by omega)] at h1;exact ⟨_,_,_,List.getElem?_eq_getElem (by omega),h1⟩
theorem openTab {H:Type} {enc:TypeId × Value->H} {W:World} {base b0:Nat} {spare:Nat->Bool} {held:Bool} {r:Reach} {v:Value} {d:DataW H} {p:List MemPlace}
 (hv:Value.okWide Tryz.prog W r b0 67 v) (h:DataW.Trod enc Tryz.prog W base spare held 67 v d p) :
 ∃ (t:Tab) (A:Option Addr) (cap:Nat),t.In/\v=tabV t A cap/\t.cells.length<=9223372036854775807/\(∀ n∈t.cells,Zv n)/\Sl 1 Y6 W A t.cells:=by
 obtain ⟨cs,hl,rfl,hf⟩:=open_cells1 Tryz.underlying67 (by kernel_rfl) (by kernel_rfl) hv h;match cs,hl with
 | [c0,c1,c2,c3,c4,c5],_ =>
  have hI:∀ (j:Nat) (f:Field) (c:Value),[c0,c1,c2,c3,c4,c5][j]? = some c->(∃ c' y n,[c0,c1,c2,c3,c4,c5][j]? = some c'/\DataW.trod enc Tryz.prog W base spare held n f.type [c']=some y)->∃ y n,DataW.trod enc Tryz.prog W base spare held n f.type [c]=some y:=by
   intro j f c hc ⟨c',y,n,h1,h2⟩;rw [hc] at h1;injection h1 with h1
   subst h1;exact ⟨y,n,h2⟩
  obtain ⟨y0,n0,t0⟩:=hI 0 _ c0 rfl (hf 0 _ rfl);obtain ⟨y1,n1,t1⟩:=hI 1 _ c1 rfl (hf 1 _ rfl);obtain ⟨y2,n2,t2⟩:=hI 2 _ c2 rfl (hf 2 _ rfl);obtain ⟨y3,n3,t3⟩:=hI 3 _ c3 rfl (hf 3 _ rfl);obtain ⟨y4,n4,t4⟩:=hI 4 _ c4 rfl (hf 4 _ rfl);obtain ⟨y5,n5,t5⟩:=hI 5 _ c5 rfl (hf 5 _ rfl);obtain ⟨a0,e0,_,w0⟩:=DataW.trod_int Tryz.underlying3 t0;obtain ⟨a1,e1,_,w1⟩:=DataW.trod_int Tryz.underlying3 t1;obtain ⟨a2,e2,_,w2⟩:=DataW.trod_int Tryz.underlying3 t2;obtain ⟨a3,e3,_,w3⟩:=DataW.trod_int Tryz.underlying3 t3;obtain ⟨a4,e4,_,w4⟩:=DataW.trod_int Tryz.underlying3 t4;obtain ⟨A,cap,xs,e5,hx,hin,hs⟩:=open_intS Tryz.underlying22 Tryz.underlying3 (by kernel_rfl) t5;simp only [List.cons.injEq,and_true] at e0 e1 e2 e3 e4 e5;subst e0 e1 e2 e3 e4 e5;exact ⟨⟨a0,a1,a2,a3,a4,xs⟩,A,cap,⟨KS w0,KS w1,KS w2,KS w3,KS w4⟩,rfl,hx,hin,hs⟩
end Go.Proofs.YtkjimfapbjdafaaGreat
namespace Go.Proofs.YtkjimfapbjdafaaGreat
open Go.RowKit
def YK (r:X3) (p e:List Half) (t:Tab) (i j:Int):Option ZP:=accH (Ze p) (XF r e) (Xi t i j) 4
theorem spanC_eq (r:X3) (p e:List Half) (t:Tab) (i j:Int):YK r p e t i j=if (Xi t i j).all (Ze p)=true then JS (XF r e) (Xi t i j) 4 else none:=by
 unfold YK;rw [accH_eq 4 (by simp [Xi])];rfl
def Ki (w:ZP) (wish:Int):Int:=if Ym w.low > Yd w.high then -1000000 else max (Ym w.low) (min (Yd w.high) wish)
def filC (r:X3) (p e:List Half) (t:Tab) (wish:Int) (ok:Bool) (i j:Int):Int:=if ok=true then (match YK r p e t i j with|some w=>Ki w wish|none=>-1000000) else -1000000
def filK (r:X3) (p e:List Half) (t:Tab) (wish:Int) (ok:Bool) (n:Nat):List Int:=(List.range n).map λ(k:Nat)=>filC r p e t wish ok ((k % t.nx.toNat:Nat):Int) ((k / t.nx.toNat:Nat):Int)
theorem filK_len (r:X3) (p e:List Half) (t:Tab) (wish:Int) (ok:Bool) (n:Nat):(filK r p e t wish ok n).length=n:=by unfold filK;rw [List.length_map,List.length_range]
theorem filK_next (r:X3) (p e:List Half) (t:Tab) (wish:Int) (ok:Bool) (n:Nat):filK r p e t wish ok (n+1)=filK r p e t wish ok n++[filC r p e t wish ok ((n % t.nx.toNat:Nat):Int) ((n / t.nx.toNat:Nat):Int)]:=by
 unfold filK;rw [List.range_succ,List.map_append];rfl
theorem filK_row (r:X3) (p e:List Half) (t:Tab) (wish:Int) (ok:Bool) {i j:Nat} (h:i<t.nx.toNat):filK r p e t wish ok (j*t.nx.toNat+i+1)=filK r p e t wish ok (j*t.nx.toNat+i)++[filC r p e t wish ok (i:Int) (j:Int)]:=by
 rw [filK_next];have e1:(j*t.nx.toNat+i) % t.nx.toNat=i:=by rw [Nat.mul_comm,Nat.mul_add_mod,Nat.mod_eq_of_lt h]
 have e2:(j*t.nx.toNat+i) / t.nx.toNat=j:=by rw [Nat.mul_comm,Nat.mul_add_div (by omega),Nat.div_eq_of_lt h,Nat.add_zero]
 rw [e1,e2]
theorem wh_gcd (x y:Int):XJ [x,y,1]=1:=by
 obtain ⟨_,_,h⟩:=@gcdAll_dvd x y 1;have:=Int.natAbs_dvd_natAbs.2 h;simp at this;exact this
theorem wh_ok {x y:Int} (hx : -1000<=x/\x<=1000) (hy : -1000<=y/\y<=1000):Xu ⟨x,y,1⟩=true:=by
 unfold Xu;rw [wh_gcd];simp [ZD];omega
theorem cel_cnr {t:Tab} {i j:Int} (h1:Y4 t=true) (h2:cellB t i j=true):CellB t i j/\∀ s∈Xi t i j,Xu s=true/\s.d=1:=by
 have hb:=cellB_bd h1 h2;refine ⟨hb, ?_⟩;obtain ⟨g1,g2,g3,g4,g5,_,g7,g8⟩:=gridOk_iff.1 h1;simp only [cellB,Bool.and_eq_true,decide_eq_true_eq] at h2;have m1:(i+1)*t.step<=t.nx*t.step:=Int.mul_le_mul_of_nonneg_right (by omega) (by omega);have m2:(j+1)*t.step<=t.ny*t.step:=Int.mul_le_mul_of_nonneg_right (by omega) (by omega);rw [Int.add_mul,Int.one_mul] at m1 m2;have b1:=hb.is;have b2:=hb.js;intro s hs;simp only [Xi,List.mem_cons,List.not_mem_nil,or_false] at hs;rcases hs with rfl|rfl|rfl|rfl<;>exact ⟨wh_ok ⟨by omega,by omega⟩ ⟨by omega,by omega⟩,rfl⟩
theorem rob_void {r:X3} {p:List Half} (h:(!(Jr r p)||decide ((Zs r p).length=0))=false):Za r p=true:=by
 cases h1:Jr r p
 ·rw [h1] at h;cases h
 ·rw [h1] at h;have h2:decide ((Zs r p).length=0)=false:=h;unfold Za;rw [h1,h2];have:p.length≠0:=by
   intro e;have:Zs r p=[]:=by
    unfold Zs;split
    ·exact (mov_void e).2
    ·rfl
   rw [this] at h2;cases h2
  rw [decide_eq_false this];rfl
theorem rob_void2 {r:X3} {p:List Half} (h:(!(Jr r p)||decide ((Zs r p).length=0))=true):Za r p=false:=by
 unfold Za;cases h1:Jr r p
 ·simp
 ·rw [h1] at h;have h2:decide ((Zs r p).length=0)=true:=h;rw [h2];simp
theorem filC_off {r:X3} {p e:List Half} {t:Tab} {wish:Int} {i j:Int} {ok:Bool} (h:ok=false):filC r p e t wish ok i j = -1000000:=by unfold filC;rw [if_neg (by rw [h];simp)]
theorem filC_none {r:X3} {p e:List Half} {t:Tab} {wish:Int} {i j:Int} {ok:Bool} (h:(YK r p e t i j).isSome=false):filC r p e t wish ok i j = -1000000:=by
 unfold filC;split
 ·cases q:YK r p e t i j with
  | none=>rfl
  | some v=>rw [q] at h;cases h
 ·rfl
theorem filC_some {r:X3} {p e:List Half} {t:Tab} {wish:Int} {i j:Int} {ok:Bool} (h0:ok=true) (h:(YK r p e t i j).isSome=true):filC r p e t wish ok i j=Ki ((YK r p e t i j).getD Xj) wish:=by
 unfold filC;rw [if_pos h0];cases q:YK r p e t i j with
 | none=>rw [q] at h;cases h
 | some v=>rfl
def tab0:Tab:=⟨0,0,0,0,0,[]⟩
def Jq (r:X3) (p:List Half) (t:Tab) (wish:Int):Bool:=ZD wish (-1000) 1000&&Y4 t&&Xw r&&Xf p
def XG (r:X3) (p:List Half) (t:Tab) (wish:Int):Tab:=if Jq r p t wish=true then ⟨t.x0,t.y0,t.step,t.nx,t.ny,filK r p (Zs r p) t wish (Za r p) (t.nx.toNat*t.ny.toNat)⟩ else tab0
theorem fil_no {r:X3} {p:List Half} {t:Tab} {wish:Int} (h:Jq r p t wish=false):XG r p t wish=tab0:=by unfold XG;rw [if_neg (by rw [h];simp)]
theorem fil_yes {r:X3} {p:List Half} {t:Tab} {wish:Int} (h:Jq r p t wish=true):XG r p t wish=⟨t.x0,t.y0,t.step,t.nx,t.ny,filK r p (Zs r p) t wish (Za r p) (t.nx.toNat*t.ny.toNat)⟩:=by unfold XG;rw [if_pos h]
theorem grid_n {t:Tab} (h:Y4 t=true):t.nx.toNat*t.ny.toNat<=400/\((t.nx.toNat*t.ny.toNat:Nat):Int)=t.nx*t.ny:=by
 obtain ⟨_,_,_,g4,g5,g6,_⟩:=gridOk_iff.1 h;have e:((t.nx.toNat*t.ny.toNat:Nat):Int)=t.nx*t.ny:=by
  rw [Int.natCast_mul,Int.toNat_of_nonneg (by omega),Int.toNat_of_nonneg (by omega)]
 exact ⟨by omega,e⟩
theorem fil_le (r:X3) (p:List Half) (t:Tab) (wish:Int):(XG r p t wish).cells.length<=400:=by
 unfold XG;split
 ·rename_i h
  unfold Jq at h;simp only [Bool.and_eq_true] at h;rw [filK_len];exact (grid_n h.1.1.2).1
 ·exact Nat.zero_le _
theorem mod_div {k:Nat} {nx:Int} (hx:1<=nx):(k:Int).tmod nx=((k % nx.toNat:Nat):Int)/\(k:Int).tdiv nx=((k / nx.toNat:Nat):Int):=by
 have e:nx=(nx.toNat:Int):=(Int.toNat_of_nonneg (by omega)).symm;constructor
 ·rw [Int.tmod_eq_emod_of_nonneg (by omega)];conv=>lhs;rw [e]
  rw [Int.natCast_emod]
 ·rw [Int.tdiv_eq_ediv_of_nonneg (by omega)];conv=>lhs;rw [e]
  rw [Int.natCast_ediv]
theorem cell_k {t:Tab} {k:Nat} (h:Y4 t=true) (hk:(k:Int)<t.nx*t.ny):cellB t ((k:Int).tmod t.nx) ((k:Int).tdiv t.nx)=true:=by
 obtain ⟨_,_,_,g4,g5,_⟩:=gridOk_iff.1 h;rw [(mod_div (k:=k) g4.1).1,(mod_div (k:=k) g4.1).2];have hn:=(grid_n h).2;have l1:k % t.nx.toNat<t.nx.toNat:=Nat.mod_lt _ (by omega);have l2:k / t.nx.toNat<t.ny.toNat:=Nat.div_lt_of_lt_mul (by omega);generalize k % t.nx.toNat=a at *;generalize k / t.nx.toNat=b at *;unfold cellB;simp only [Bool.and_eq_true,decide_eq_true_eq];omega
end Go.Proofs.YtkjimfapbjdafaaGreat
