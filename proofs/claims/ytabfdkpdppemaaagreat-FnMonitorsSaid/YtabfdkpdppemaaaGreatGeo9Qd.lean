/-
 The meet of a valid region and half planes: its edges are edges of the one or among the others, so it is valid again; the order of the half planes doesn't matter. No program is named here.
 Conditions: none.
-/
import Derived.Lib.SliceRun
import Derived.Laws.StructEq
import Derived.Test.YtabfdkpdppemaaaGreatGrXa
set_option maxRecDepth 100000
namespace Go.Proofs.YtabfdkpdppemaaaGreat
open Go.RowKit
theorem nodup_len {α:Type} [DecidableEq α]:∀ {l m:List α},l.Nodup->(∀ x∈l,x∈m)->l.length<=m.length
 | [],_,_,_=>Nat.zero_le _
 | x :: l,m,n,h=>by
  have hx:=h x (List.mem_cons_self ..);have n':=List.nodup_cons.1 n;have:=nodup_len (l:=l) (m:=m.erase x) n'.2 (λ y hy=>(List.mem_erase_of_ne (λ e=>n'.1 (by rw [<- e];exact hy))).2 (h y (List.mem_cons_of_mem _ hy)));rw [List.length_erase_of_mem hx] at this;have:=List.length_pos_of_mem hx;simp only [List.length_cons];omega
theorem frame_edge {l L:List Half} (gd:Ka l) (ok:∀ f∈l,XG f=true) (hne:X3 l≠[]) (g2:Ka L) (ok2:∀ f∈L,XG f=true) (hn2:¬ GVoid L) (hcov:∀ f∈l,∃ y∈L,GCov y f) {h:Half} (hh:h∈L) (he:Zh XI Zb L h) (hfr:∃ y∈l,GCov y h):h∈X3 l:=by
 obtain ⟨g0,hg,k0,hk,_,_,p,q,r,v1,v2⟩:=edge_corners g2 hn2 hh he;have up:∀ f∈l,∀ a b,0<XI a b->(∀ k∈L,0<=Zb a b k)->0<=Zb a b f:=by
  intro f hf a b hab hin;obtain ⟨y,hy,cy⟩:=hcov f hf;exact (det_holds hab).2 (holds_cov (g2.nz y hy) (gd.nz f hf) cy (Int.le_of_lt (JC (by omega))) ((det_holds hab).1 (hin y hy)))
 obtain ⟨y,hy,cy⟩:=hfr;have hyh:y.c*Yo h=h.c*Yo y:=by
  have t:=up y hy h k0 q v1;have n1:=gd.nz y hy;have n2:=g2.nz h hh;obtain ⟨e1,e2⟩:=same_scale n1 n2 cy.1;have id:Yo h*Zb h k0 y=Yo y*Zb h k0 h+XI h k0*(y.c*Yo h-h.c*Yo y):=by
   simp only [Zb,XI];grind
  rw [gom.d0 h k0,Int.mul_zero,Int.zero_add] at id;have t2:=Int.mul_nonneg (Int.le_of_lt (Zk n2)) t;rw [id] at t2;have:=gmn t2 q;have:=cy.2;omega
 have:=half_eq (ok y hy) (ok2 h hh) cy.1 hyh;subst this;exact mem_meetI gd hne hy (edge_of_vertices gom p q r (λ f hf=>up f hf y k0 q v1) (λ f hf=>up f hf g0 y p v2))
theorem frame_cov {l:List Half} (gd:Ka l) {h:Half} (hh:h∈Y4):∃ y∈l,GCov y h:=by
 simp only [Y4,List.mem_cons,List.not_mem_nil,or_false] at hh;rcases hh with rfl|rfl|rfl|rfl
 ·exact gd.e
 ·exact gd.n
 ·exact gd.w
 ·exact gd.s
theorem reg_meetI {p:List Half} (h:Xi p=true) (hne:p≠[]):X3 (Xz p)=p:=by
 rcases reg_iff h with rfl|h
 ·exact absurd rfl hne
 ·exact h.2.2
theorem app_ok {p q:List Half} (hp:∀ h∈p,XG h=true) (hq:∀ h∈q,XG h=true):∀ h∈p++q,XG h=true:=by
 intro h hh;rcases List.mem_append.1 hh with h1|h1
 ·exact hp h h1
 ·exact hq h h1
theorem meet_sub {p q:List Half} (hp:Xi p=true) (hne:p≠[]) (hq:∀ h∈q,XG h=true):∀ h∈X3 (Xz (p++q)),h∈p++q:=by
 intro h hh;have pok:=ZH hp;have aok:=app_ok pok hq;have g1:=Kv pok;have g2:=Kv aok;have c1:=ZB (hs:=Y4++p) (λ f hf=>(hOk (Kl pok f hf)).n);have c2:=ZB (hs:=Y4++(p++q)) (λ f hf=>(hOk (Kl aok f hf)).n);obtain ⟨hl,he⟩:=KH g2 hh;have hn2:=meetI_nv g2 (List.ne_nil_of_mem hh);rcases List.mem_append.1 (c2.mem h hl) with hfr|hfr
 ·have hm:=frame_edge g1 (meetL_ok pok) (by rw [reg_meetI hp hne];exact hne) g2 (meetL_ok aok) hn2 (λ f hf=>by
   refine c2.cov f ?_;rcases List.mem_append.1 (c1.mem f hf) with h1|h1
   ·exact List.mem_append_left _ h1
   ·exact List.mem_append_right _ (List.mem_append_left _ h1)) hl he (frame_cov g1 hfr)
  rw [reg_meetI hp hne] at hm;exact List.mem_append_left _ hm
 ·exact hfr
theorem meet_len {p q:List Half} (hp:Xi p=true) (hne:p≠[]) (hq:∀ h∈q,XG h=true):(X3 (Xz (p++q))).length<=p.length+q.length:=by
 have:=nodup_len (meetI_sorted (Kv (app_ok (ZH hp) hq))).nodup (meet_sub hp hne hq);rw [List.length_append] at this;exact this
theorem meet_app_ok {p q:List Half} (hp:Xi p=true) (hne:p≠[]) (hq:∀ h∈q,XG h=true) (hl:p.length+q.length<=40):YO (Xz (p++q))=true:=by
 have:=meet_len hp hne hq;unfold YO;rw [decide_eq_true_iff];omega
theorem cloneHalf_c (A:Option Addr) (xs:List Half) (cap:Nat) (w:World) (hl:xs.length<=1048576) (hs:Sl 3 Xh w A xs) :
 Calls Tryz.prog 189 #[.slice A xs.length cap] w λ e w'=>∃ v,e=.returned v/\XU 174 3 Xh w' w.heap.size v xs/\Below w.heap.size w w':=by
 obtain ⟨i0,hi0,hz0,hz1,hz2⟩:=info_parts (show (Tryz.prog.info? 174).map (λ i=>(i.zero,i.size,i.bytes))=some (some (.agg #[.int .i64 0,.int .i64 0,.int .i64 0]),3,24) by kernel_rfl);have hnil:=λ W n=>Lib.run_eql_slice_nil (P:=Tryz.prog) W 24 _ A n cap 0 0 Tryz.underlying24;cases A with
 | none =>
  have hx:xs=[]:=by
   apply List.eq_nil_of_length_eq_zero;apply Nat.eq_zero_of_not_pos;intro h0;obtain ⟨b,off,e,_⟩:=hs h0;cases e
  subst hx;go_enter Tryz.func189,Tryz.ntmps189
  go_wp2
  go_ret
  refine ⟨_,rfl,⟨none,0,rfl,by simp,.inl ⟨rfl,rfl⟩⟩, ?_⟩;exact Xp
 | some p =>
  have N0:XU 174 3 Xh (w.alloc (.cells #[] 174)) w.heap.size (.slice (some ⟨w.heap.size,0,none⟩) 0 0) []:=XU.mk0 w;have b0:Below w.heap.size w (w.alloc (.cells #[] 174)):=by
   exact Xp
  have hs0:=hs.below b0;have hz30:([]:List Half).length+xs.length<=1073741824:=by simp only [List.length_nil];omega
  go_enter Tryz.func189,Tryz.ntmps189
  go_wp2_with (at_builtin;refine wpList_appS XJ _ rfl _ _ 24 rfl w.heap.size i0 _ 24 Tryz.underlying24 hi0 hz0 hz1 hz2 rfl (by decide) rfl N0 (some p) cap rfl hs0 (λ e=>by cases e) ZI b0 (by simp) hz30 (by decide) ?_)
  intro v1 w1 N1 hb1;go_wp2
  go_ret
  exact ⟨_,rfl,N1,hb1⟩
theorem Jv (p:List Half) (a:KL) (w:World) (hl:p.length<=1048576) (hs:Sl 3 Xh w a.A p) :
 Calls Tryz.prog 101 #[ZN p a] w λ e w'=>∃ b,e=.returned (ZN p b)/\Yg w' w.heap.size p b/\Below w.heap.size w w':=by
 have c1:=λ W h=>cloneHalf_c a.A p a.c W hl h;have hs0:=(hs.alloc (.cells #[.slice a.A p.length a.c] 26)).alloc (.cells #[.slice none 0 0] 26);have H0:Yk ((w.alloc (.cells #[.slice a.A p.length a.c] 26)).alloc (.cells #[.slice none 0 0] 26)) (w.heap.size+1) [.slice none 0 0]:=by
  exact ZK
 have b0:Below w.heap.size w ((w.alloc (.cells #[.slice a.A p.length a.c] 26)).alloc (.cells #[.slice none 0 0] 26)):=by
  exact Xp
 go_enter Tryz.func101,Tryz.ntmps101
 go_wp2_with (fail)
 refine (c1 _ hs0).mono ?_;rintro e w1 ⟨v1,rfl,N1,hb1⟩;have H1:=H0.below hb1;have l1:=H1.1;have b1:=Xf b0 hb1;obtain ⟨A1,k1,rfl,ho⟩:=N1;have N1:XU 174 3 Xh w1 _ (.slice A1 p.length k1) p:=⟨A1,k1,rfl,ho⟩;simp only [World.size_alloc] at N1;clear ho hb1 H0 b0 hs0;obtain ⟨cH1_0,fH1_0⟩:=H1.2 0 _ rfl;go_wp2
 refine bodyPost_ret (v:=.agg #[.slice A1 p.length k1]) (by simp [results,Tryz.results101,go_sem,cH1_0]) rfl ⟨⟨A1,k1⟩,rfl,⟨?_⟩, ?_⟩
 ·exact (N1.set_ (by simp only;omega) _).mono (by omega)
 ·exact b1.setCell (by simp only;omega) _
section
variable {W w w':World} {a:Act} {s T g g':Nat} {z:List Value} {b:Bool} {C:World->List Value->Prop} {k:Option Nat} {v:Value}
theorem ptr_ne (h:g≠g'):Value.pointer (some ⟨g,0,none⟩)≠.pointer (some ⟨g',0,none⟩):=by
 intro q;injection q with q;injection q with q;injection q with q;exact h q
end
section
variable {P:Program} {o:Oper} {a:Act} {w:World} {N:Act->World->Prop} {Q:Exit->Act->World->Prop}
end
section
variable {K:Act->World->Prop} {Q:Exit->Act->World->Prop} {a:Act} {w:World} {i k:Nat}
end
theorem and_t1 {x y:Bool} (h:(x&&y)=true):x=true:=by cases x<;>simp_all
theorem and_t2 {x y:Bool} (h:(x&&y)=true):y=true:=by cases x<;>simp_all
theorem Kn {o oj:Oper} {ops:Array Oper} {a:Act} {R S:Prop} {j s:Nat} {b:Bool} (hg:o.guard=some (j,b)) (hj:ops[j]? = some oj) (hd:oj.dst=some s) (hv:a.tmps[s]?.getD undef=undef) (h:S):if Region.wanted o (yielded ops a.tmps)=true then R else S:=by
 rw [if_neg]
 ·exact h
 ·unfold Region.wanted;rw [hg];simp only [yielded,hj,Option.bind_some,hd];cases e:a.tmps[s]? with
  | none=>simp
  | some v =>
   rw [e] at hv;simp only [Option.getD_some] at hv;rw [hv];simp [undef]
section
variable {a:Act} {w:World} {N:Act->World->Prop} {Q:Exit->Act->World->Prop} {o:Oper} {x y:Operand} {T':TypeId}
theorem wp_neR (h:o.op=.binOp .neq 36 x y T') {r s:X5} (ex:a.eval x=XO r) (ey:a.eval y=XO s) (hn:N (a.put o.dst (.bool (!decide (r=s)))) w):o.wp Tryz.prog a w N Q:=by
 refine opv ?_ hn;unfold execOp;rw [h];simp only;rw [ex,ey];obtain ⟨a,b⟩:=r;obtain ⟨c,d⟩:=s;simp [go_sem];by_cases h1:a=c<;>by_cases h2:b=d<;>simp [h1,h2]
end
def ZW (p q:List Half):Bool:=(XA p).all (Zl q)
end Go.Proofs.YtabfdkpdppemaaaGreat
