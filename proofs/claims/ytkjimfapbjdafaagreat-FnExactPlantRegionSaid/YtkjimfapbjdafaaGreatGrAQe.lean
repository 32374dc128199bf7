/-
 Words on memory that the contracts of this claim use: a slice that reads as a list of structs, a slice of the call's own.
 Conditions: none.
-/
import Derived.Test.YtkjimfapbjdafaaGreatRows
import Derived.WalkKit
import Derived.WalkSpells
import Derived.WalkLawsBesides
import Derived.Deep.Draws
import Derived.Lib.Hide
import Derived.Deep.Slices
import Derived.Deep.Fields
import Derived.ChangeSame
import Derived.ArgAppend
import Derived.Test.YtkjimfapbjdafaaGreatGrXg
import Derived.JoinedOf
import Derived.RegionTactic
import Derived.ChangeAlike
import Derived.Deep.DeepCutAuto
import Derived.Deep.RegionHeld3
import Derived.StillTailTactics
import Derived.Test.YtkjimfapbjdafaaGreatGrPQo
import Derived.Test.YtkjimfapbjdafaaGreatGrXdQs
set_option maxRecDepth 100000
namespace Go.Proofs.YtkjimfapbjdafaaGreat
open Go.RowKit
section
variable {α:Type} {sz:Nat} {enc:α->List Value} {w w':World} {A:Option Addr} {xs:List α}
end
section
variable {α:Type} {T sz:Nat} {enc:α->List Value} {w w':World} {v:Value} {xs:List α} {base:Nat}
end
section
variable {α:Type} {T sz:Nat} {enc:α->List Value} {w w':World} {g N k:Nat} {xs:List α}
end
section
variable {w w':World} {g:Nat} {vs:List Value}
end
def Jj (x:KB):List Value:=[.int .i64 x.low,.int .i64 x.high]
abbrev modeV (x:KB):Value:=.agg #[.int .i64 x.low,.int .i64 x.high]
theorem modeC_len (x:KB):(Jj x).length=2:=rfl
def mkMode (r:List Int):KB:=⟨r.getD 0 0,r.getD 1 0⟩
theorem mkMode_C {r:List Int} (h:r.length=2):Jj (mkMode r)=r.map (Value.int .i64):=by
 match r,h with
 | [a,b],_=>rfl
theorem mkMode_In {r:List Int} (h:r.length=2) (h2:∀ n∈r,Zv n):(mkMode r).In:=by
 match r,h with
 | [a,b],_=>simpa [KB.In,mkMode] using h2
def markModes (k:Int) (n:Nat):List KB:=(List.range n).map λ(i:Nat)=>⟨k+i*2,k+i*2+1⟩
theorem j3_PlantRegion:(Rows.fnExactPlantRegionRow.recurses == Tryz.prog.recurses 6)=true:=by kernel_rfl
theorem j4_PlantRegion:(Rows.fnExactPlantRegionRow.named == Tryz.prog.varsNamed 6)=true:=by kernel_rfl
theorem j1_PlantRegion:(Rows.fnExactPlantRegionRow.inPlace == Tryz.prog.inPlace 6)=true:=by kernel_rfl
theorem j2_PlantRegion:(Rows.fnExactPlantRegionRow.unfollowed == Tryz.prog.unfollowed 6)=true:=by kernel_rfl
theorem Yq.drew {w:World} {base:Nat} {x:X3} {a:YO} (h:Yq w base x a):Yq w.drew base x a:=⟨h.map,⟨h.noise.halves⟩,⟨h.limits.halves⟩,h.apart⟩
theorem nodup_len {α:Type} [DecidableEq α]:∀ {l m:List α},l.Nodup->(∀ x∈l,x∈m)->l.length<=m.length
 | [],_,_,_=>Nat.zero_le _
 | x :: l,m,n,h=>by
  have hx:=h x (List.mem_cons_self ..);have n':=List.nodup_cons.1 n;have:=nodup_len (l:=l) (m:=m.erase x) n'.2 (λ y hy=>(List.mem_erase_of_ne (λ e=>n'.1 (by rw [<- e];exact hy))).2 (h y (List.mem_cons_of_mem _ hy)));rw [List.length_erase_of_mem hx] at this;have:=List.length_pos_of_mem hx;simp only [List.length_cons];omega
theorem frame_edge {l L:List Half} (gd:KL l) (ok:∀ f∈l,XW f=true) (hne:YD l≠[]) (g2:KL L) (ok2:∀ f∈L,XW f=true) (hn2:¬ GVoid L) (hcov:∀ f∈l,∃ y∈L,GCov y f) {h:Half} (hh:h∈L) (he:KC Yf Z3 L h) (hfr:∃ y∈l,GCov y h):h∈YD l:=by
 obtain ⟨g0,hg,k0,hk,_,_,p,q,r,v1,v2⟩:=edge_corners g2 hn2 hh he;have up:∀ f∈l,∀ a b,0<Yf a b->(∀ k∈L,0<=Z3 a b k)->0<=Z3 a b f:=by
  intro f hf a b hab hin;obtain ⟨y,hy,cy⟩:=hcov f hf;exact (det_holds hab).2 (holds_cov (g2.nz y hy) (gd.nz f hf) cy (Int.le_of_lt (JP (by omega))) ((det_holds hab).1 (hin y hy)))
 obtain ⟨y,hy,cy⟩:=hfr;have hyh:y.c*YT h=h.c*YT y:=by
  have t:=up y hy h k0 q v1;have n1:=gd.nz y hy;have n2:=g2.nz h hh;obtain ⟨e1,e2⟩:=same_scale n1 n2 cy.1;have id:YT h*Z3 h k0 y=YT y*Z3 h k0 h+Yf h k0*(y.c*YT h-h.c*YT y):=by
   simp only [Z3,Yf];grind
  rw [gom.d0 h k0,Int.mul_zero,Int.zero_add] at id;have t2:=Int.mul_nonneg (Int.le_of_lt (Z0 n2)) t;rw [id] at t2;have:=gmn t2 q;have:=cy.2;omega
 have:=half_eq (ok y hy) (ok2 h hh) cy.1 hyh;subst this;exact mem_meetI gd hne hy (edge_of_vertices gom p q r (λ f hf=>up f hf y k0 q v1) (λ f hf=>up f hf g0 y p v2))
theorem frame_cov {l:List Half} (gd:KL l) {h:Half} (hh:h∈KG):∃ y∈l,GCov y h:=by
 simp only [KG,List.mem_cons,List.not_mem_nil,or_false] at hh;rcases hh with rfl|rfl|rfl|rfl
 ·exact gd.e
 ·exact gd.n
 ·exact gd.w
 ·exact gd.s
theorem reg_meetI {p:List Half} (h:Xf p=true) (hne:p≠[]):YD (XH p)=p:=by
 rcases reg_iff h with rfl|h
 ·exact absurd rfl hne
 ·exact h.2.2
theorem app_ok {p q:List Half} (hp:∀ h∈p,XW h=true) (hq:∀ h∈q,XW h=true):∀ h∈p++q,XW h=true:=by
 intro h hh;rcases List.mem_append.1 hh with h1|h1
 ·exact hp h h1
 ·exact hq h h1
theorem meet_sub {p q:List Half} (hp:Xf p=true) (hne:p≠[]) (hq:∀ h∈q,XW h=true):∀ h∈YD (XH (p++q)),h∈p++q:=by
 intro h hh;have pok:=Kj hp;have aok:=app_ok pok hq;have g1:=meetL_good pok;have g2:=meetL_good aok;have c1:=Z5 (hs:=KG++p) (λ f hf=>(hOk (Ky pok f hf)).n);have c2:=Z5 (hs:=KG++(p++q)) (λ f hf=>(hOk (Ky aok f hf)).n);obtain ⟨hl,he⟩:=meetI_mem g2 hh;have hn2:=meetI_nv g2 (List.ne_nil_of_mem hh);rcases List.mem_append.1 (c2.mem h hl) with hfr|hfr
 ·have hm:=frame_edge g1 (meetL_ok pok) (by rw [reg_meetI hp hne];exact hne) g2 (meetL_ok aok) hn2 (λ f hf=>by
   refine c2.cov f ?_;rcases List.mem_append.1 (c1.mem f hf) with h1|h1
   ·exact List.mem_append_left _ h1
   ·exact List.mem_append_right _ (List.mem_append_left _ h1)) hl he (frame_cov g1 hfr)
  rw [reg_meetI hp hne] at hm;exact List.mem_append_left _ hm
 ·exact hfr
theorem meet_len {p q:List Half} (hp:Xf p=true) (hne:p≠[]) (hq:∀ h∈q,XW h=true):(YD (XH (p++q))).length<=p.length+q.length:=by
 have:=nodup_len (meetI_sorted (meetL_good (app_ok (Kj hp) hq))).nodup (meet_sub hp hne hq);rw [List.length_append] at this;exact this
theorem meet_app_ok {p q:List Half} (hp:Xf p=true) (hne:p≠[]) (hq:∀ h∈q,XW h=true) (hl:p.length+q.length<=40):Zl (XH (p++q))=true:=by
 have:=meet_len hp hne hq;unfold Zl;rw [decide_eq_true_iff];omega
theorem toMode_c (x:KB) (w:World) :
 Calls Tryz.prog 86 #[modeV x] w λ e w'=>e=.returned (modeV x)/\Below w.heap.size w w':=by
 go_enter Tryz.func86,Tryz.ntmps86
 go_wp2
 refine bodyPost_ret (v:=.agg #[.int .i64 x.low,.int .i64 x.high]) (by simp [results,Tryz.results86,go_sem]) rfl ⟨rfl, ?_⟩;exact XA
theorem eqMode_t (x:KB) (w:World) :
 Calls Tryz.prog 91 #[modeV x,modeV x] w λ e w'=>e=.returned (.bool true)/\Below w.heap.size w w':=by
 go_enter Tryz.func91,Tryz.ntmps91
 go_wp2
 go_ret
 refine ⟨rfl, ?_⟩;exact XA
theorem szModeS_c (A:Option Addr) (n cap:Nat) (left:Int) (w:World) (hn:n<=9223372036854775807) (h0:0<=left) (h1:left<=1048576) :
 Calls Tryz.prog 15 #[.slice A n cap,.int .i64 left] w λ e w'=>e=.returned (.int .i64 (if left-n<0 then -1 else left-n))/\w=w':=by
 by_cases h:left-n<0
 all_goals
  go_enter Tryz.func15,Tryz.ntmps15
  go_wp2
  go_ret
  exact ⟨Zo (by simp),rfl⟩
theorem eqModeS_t (A B:Option Addr) (xs:List KB) (c d:Nat) (w:World) (hn:xs.length<=1048576) (ha:Sl 2 Jj w A xs) (hb:Sl 2 Jj w B xs) :
 Calls Tryz.prog 25 #[.slice A xs.length c,.slice B xs.length d] w λ e w'=>e=.returned (.bool true)/\Below w.heap.size w w':=by
 go_enter Tryz.func25,Tryz.ntmps25
 go_wp2
 go_loopw [5] (λ i wr=>∃ k:Nat,k<=xs.length/\i=.int .i64 k/\Below w.heap.size w wr) (λ i _=>xs.length-(intOf i).toNat)
 case atStart=>exact ⟨0,Nat.zero_le _,rfl,Below.refl _ _⟩
 case round =>
  obtain ⟨k,hk,rfl,hbw⟩:=hrel;by_cases hlt:k<xs.length
  ·obtain ⟨b,off,rfl,hblt,hc⟩:=(ha.below hbw).at_ hlt;obtain ⟨b',off',rfl,hblt',hc'⟩:=(hb.below hbw).at_ hlt;have g0:=hc 0 _ rfl;have g1:=hc 1 _ rfl;have g0':=hc' 0 _ rfl;have g1':=hc' 1 _ rfl;clear hc hc';simp only [Nat.add_zero] at g0 g0';generalize xs[k]=x at *;go_wp2
   go_still_tail 8,(by kernel_rfl)
   change wpList _ _ _ _ _ wr.drew
   generalize hwr:wr.drew=w2;have hb2:Below w.heap.size w w2:=by rw [<- hwr];exact hbw.drew
   clear hwr;go_wp2_with (fail)
   refine (eqMode_t x _).mono ?_;rintro e w1 ⟨rfl,hb1⟩;go_wp2
   go_roundw
   case rel=>exact ⟨k+1,by omega,by go_num,hb2.trans (hb1.mono hb2.size)⟩
   case measure=>simp [intOf];omega
  ·go_wp2
   go_ret
   exact ⟨rfl,hbw⟩
theorem toModeS_c (A:Option Addr) (xs:List KB) (cap:Nat) (w:World) (hn:xs.length<=1048576) (hs:Sl 2 Jj w A xs) :
 Calls Tryz.prog 19 #[.slice A xs.length cap] w λ e w'=>∃ v,e=.returned v/\XI 132 2 Jj w' w.heap.size v xs/\Below w.heap.size w w':=by
 obtain ⟨i0,hi0,hz0,hz1,hz2⟩:=info_parts (show (Tryz.prog.info? 132).map (λ i=>(i.zero,i.size,i.bytes))=some (some (.agg #[.int .i64 0,.int .i64 0]),2,16) by kernel_rfl);have hmk:∀ W:World,(Instr.makeSlice 41 (.int .i64 (xs.length:Int)) (.int .i64 (xs.length:Int))).run Tryz.prog W=.ok (.slice (some ⟨W.heap.size,0,none⟩) xs.length xs.length) (W.alloc (.cells (madeCells #[.int .i64 0,.int .i64 0] (xs.length*2)) 132)):=by
  intro W;have h:=run_make (P:=Tryz.prog) W 41 132 i0 _ Tryz.underlying41 hi0 hz0 .i64 .i64 (xs.length:Int) (xs.length:Int) (by omega) (by omega) (by rw [hz2];omega) (by omega);rw [hz1] at h;simpa [Value.cells] using h
 go_enter Tryz.func19,Tryz.ntmps19
 go_wp2
 go_loopw [4] (λ i wr=>∃ k:Nat,k<=xs.length/\i=.int .i64 k/\Kg 132 2 Jj wr w.heap.size (xs.length*2) xs k/\Below w.heap.size w wr) (λ i _=>xs.length-(intOf i).toNat)
 case atStart=>exact ⟨0,Nat.zero_le _,rfl,Kg.start (by simp [madeCells]) Xh,Xd bR _⟩
 case round =>
  obtain ⟨k,hk,rfl,hfill,hbw⟩:=hrel;by_cases hlt:k<xs.length
  ·obtain ⟨b,off,rfl,hblt,hc⟩:=(hs.below hbw).at_ hlt;have g0:=hc 0 _ rfl;have g1:=hc 1 _ rfl;clear hc;simp only [Nat.add_zero] at g0;have hx:xs[k]=xs[k]:=rfl;generalize hxx:xs[k]=x at *;have HX:=Lib.hid hxx;clear hxx hx;go_wp2_with (fail)
   refine (toMode_c x _).mono ?_;rintro e w1 ⟨rfl,hb1⟩;have hfill1:=hfill.below hb1;have hbw1:=Xn hbw hb1;have hm:=Nat.mul_le_mul_right 2 hlt;obtain ⟨u0,c0⟩:=hfill1.cell (m:=k*2) (by omega);have f0:=hfill1.frozen (k*2);obtain ⟨u1,c1⟩:=hfill1.cell (m:=k*2+1) (by omega);have f1:=hfill1.frozen (k*2+1);clear hm;have hst:=hfill1.stored modeC_len hlt (vs:=Jj x) (by rw [HX.out]);have hst2:=below_setCells (Nat.le_refl w.heap.size) (Jj x) (k*2) _ hbw1;go_wp2
   exact ⟨⟨k+1,by omega,by go_num,hst,hst2⟩,by simp [intOf];omega⟩
  ·obtain rfl:k=xs.length:=by omega
   go_wp2
   go_ret
   exact ⟨_,rfl,hfill.new modeC_len Xh (by unfold maxLen;omega),hbw⟩
theorem markModeS_g (A:Option Addr) (n cap:Nat) (xs:List KB) (K:Int) (base:Nat) (w:World) (hl:xs.length=n) (hn:n<=1048576) (hK:0<=K) (hK2:K<=1000000000000) (hv:XI 132 2 Jj w base (.slice A n cap) xs) :
 Calls Tryz.prog 28 #[.slice A n cap,.int .i64 K] w λ e w'=>e=.returned (.int .i64 (K+n*2))/\XI 132 2 Jj w' base (.slice A n cap) (markModes K n)/\Zr w w' [⟨A,cap⟩]:=by
 obtain ⟨A',cap',he,hown⟩:=hv;injection he with e1 e2 e3
 subst e1 e3 hl;by_cases h0:xs.length=0
 ·have hx:xs=[]:=List.eq_nil_of_length_eq_zero h0;subst hx;simp only [List.length_nil];go_enter Tryz.func28,Tryz.ntmps28
  go_wp2
  go_loopw [1,5] (λ kk i wr=>i=.int .i64 0/\kk=.int .i64 K/\wr=w) (λ _ _ _=>0)
  case atStart=>exact ⟨rfl,rfl,rfl⟩
  case round =>
   obtain ⟨rfl,rfl,rfl⟩:=hrel;go_wp2
   go_ret
   exact ⟨Zo (by simp),⟨A,cap,rfl,hown⟩,Zr.refl _ _⟩
 ·obtain ⟨g,hA,hbg,hfill0,hback⟩:=own_filled modeC_len hown (markModes K xs.length) (by simp [markModes]) (by omega);subst hA;have hml:(markModes K xs.length).length=xs.length:=by simp [markModes]
  go_enter Tryz.func28,Tryz.ntmps28
  go_wp2
  go_loopw [1,5] (λ kk i wr=>∃ k:Nat,k<=xs.length/\i=.int .i64 k/\kk=.int .i64 (K+k*2)/\Kg 132 2 Jj wr g (cap*2) (markModes K xs.length) k/\Zr w wr [⟨some ⟨g,0,none⟩,cap⟩]) (λ _ i _=>xs.length-(intOf i).toNat)
  case atStart=>exact ⟨0,Nat.zero_le _,rfl,by simp,hfill0,Zr.refl _ _⟩
  case round =>
   obtain ⟨k,hk,rfl,rfl,hfill,hbw⟩:=hrel;by_cases hlt:k<xs.length
   ·have hm:=Nat.mul_le_mul_right 2 hlt;have hml2:=hfill.room;rw [hml] at hml2;obtain ⟨u0,c0⟩:=hfill.cell (m:=k*2) (by omega);have f0:=hfill.frozen (k*2);obtain ⟨u1,c1⟩:=hfill.cell (m:=k*2+1) (by omega);have f1:=hfill.frozen (k*2+1);clear hm hml2;have hst:=hfill.stored modeC_len (by rw [hml];exact hlt) (vs:=Jj ⟨K+k*2,K+k*2+1⟩) (by simp [markModes]);have hst2:=Zr.setCells (Jj ⟨K+k*2,K+k*2+1⟩) (k*2) _ hbw;go_wp2
    refine ⟨⟨k+1,by omega,by go_num, ?_,hst,hst2⟩,by simp [intOf];omega⟩;congr 1;omega
   ·obtain rfl:k=xs.length:=by omega
    go_wp2
    go_ret
    refine ⟨rfl, ?_,hbw⟩;obtain ⟨A2,c2,e2,o2⟩:=hback _ hfill;rw [hml] at e2 o2;injection e2 with e3 _ e4
    subst e3 e4;exact ⟨_,_,by rw [hml],by rw [hml];exact o2⟩
end Go.Proofs.YtkjimfapbjdafaaGreat
