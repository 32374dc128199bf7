/-
 The meet of a valid region and half planes: its edges are edges of the one or among the others, so it is valid again; the order of the half planes doesn't matter. No program is named here.
 Conditions: none.
-/
import Derived.Test.YtdncnhcffbgjhaaGreatGrR
namespace Go.Proofs.YtdncnhcffbgjhaaGreat
open Go.RowKit
theorem nodup_len {α:Type} [DecidableEq α]:∀ {l m:List α},l.Nodup→(∀ x∈l,x∈m)→l.length≤m.length
 | [],_,_,_=>Nat.zero_le _
 | x :: l,m,n,h=>by
  have hx:=h x (List.mem_cons_self ..)
  have n':=List.nodup_cons.1 n
  have:=nodup_len (l:=l) (m:=m.erase x) n'.2 (fun y hy=>(List.mem_erase_of_ne (fun e=>n'.1 (by rw [← e];exact hy))).2 (h y (List.mem_cons_of_mem _ hy)))
  rw [List.length_erase_of_mem hx] at this
  have:=List.length_pos_of_mem hx
  simp only [List.length_cons]
  omega
/-- An edge of a smaller region along a half plane that bounds the greater one is an edge of the greater one. -/
theorem frame_edge {l L:List Half} (gd:GGood l) (ok:∀ f∈l,halfOk f=true) (hne:meetI l≠[]) (g2:GGood L) (ok2:∀ f∈L,halfOk f=true) (hn2:¬ GVoid L) (hcov:∀ f∈l,∃ y∈L,GCov y f) {h:Half} (hh:h∈L) (he:GEdge hcrs hdet L h) (hfr:∃ y∈l,GCov y h):h∈meetI l:=by
 obtain ⟨g0,hg,k0,hk,_,_,p,q,r,v1,v2⟩:=edge_corners g2 hn2 hh he
 have up:∀ f∈l,∀ a b,0<hcrs a b→(∀ k∈L,0≤hdet a b k)→0≤hdet a b f:=by
  intro f hf a b hab hin
  obtain ⟨y,hy,cy⟩:=hcov f hf
  exact (det_holds hab).2 (holds_cov (g2.nz y hy) (gd.nz f hf) cy (Int.le_of_lt (crD_pos (by omega))) ((det_holds hab).1 (hin y hy)))
 obtain ⟨y,hy,cy⟩:=hfr
 have hyh:y.c*hsz h=h.c*hsz y:=by
  have t:=up y hy h k0 q v1
  have n1:=gd.nz y hy
  have n2:=g2.nz h hh
  obtain ⟨e1,e2⟩:=same_scale n1 n2 cy.1
  have id:hsz h*hdet h k0 y=hsz y*hdet h k0 h+hcrs h k0*(y.c*hsz h-h.c*hsz y):=by
   simp only [hdet,hcrs];grind
  rw [gom.d0 h k0,Int.mul_zero,Int.zero_add] at id
  have t2:=Int.mul_nonneg (Int.le_of_lt (hsz_pos n2)) t
  rw [id] at t2
  have:=gmn t2 q
  have:=cy.2
  omega
 have:=half_eq (ok y hy) (ok2 h hh) cy.1 hyh
 subst this
 exact mem_meetI gd hne hy (edge_of_vertices gom p q r (fun f hf=>up f hf y k0 q v1) (fun f hf=>up f hf g0 y p v2))
theorem frame_cov {l:List Half} (gd:GGood l) {h:Half} (hh:h∈gframe):∃ y∈l,GCov y h:=by
 simp only [gframe,List.mem_cons,List.not_mem_nil,or_false] at hh
 rcases hh with rfl|rfl|rfl|rfl
 ·exact gd.e
 ·exact gd.n
 ·exact gd.w
 ·exact gd.s
theorem reg_meetI {p:List Half} (h:regionOk p=true) (hne:p≠[]):meetI (meetL p)=p:=by
 rcases reg_iff h with rfl|h
 ·exact absurd rfl hne
 ·exact h.2.2
theorem app_ok {p q:List Half} (hp:∀ h∈p,halfOk h=true) (hq:∀ h∈q,halfOk h=true):∀ h∈p++q,halfOk h=true:=by
 intro h hh
 rcases List.mem_append.1 hh with h1|h1
 ·exact hp h h1
 ·exact hq h h1
theorem meet_sub {p q:List Half} (hp:regionOk p=true) (hne:p≠[]) (hq:∀ h∈q,halfOk h=true):∀ h∈meetI (meetL (p++q)),h∈p++q:=by
 intro h hh
 have pok:=reg_ok hp
 have aok:=app_ok pok hq
 have g1:=meetL_good pok
 have g2:=meetL_good aok
 have c1:=tight_canon (hs:=gframe++p) (fun f hf=>(hOk (frame_all pok f hf)).n)
 have c2:=tight_canon (hs:=gframe++(p++q)) (fun f hf=>(hOk (frame_all aok f hf)).n)
 obtain ⟨hl,he⟩:=meetI_mem g2 hh
 have hn2:=meetI_nv g2 (List.ne_nil_of_mem hh)
 rcases List.mem_append.1 (c2.mem h hl) with hfr|hfr
 ·have hm:=frame_edge g1 (meetL_ok pok) (by rw [reg_meetI hp hne];exact hne) g2 (meetL_ok aok) hn2 (fun f hf=>by
   refine c2.cov f ?_
   rcases List.mem_append.1 (c1.mem f hf) with h1|h1
   ·exact List.mem_append_left _ h1
   ·exact List.mem_append_right _ (List.mem_append_left _ h1)) hl he (frame_cov g1 hfr)
  rw [reg_meetI hp hne] at hm
  exact List.mem_append_left _ hm
 ·exact hfr
theorem meet_len {p q:List Half} (hp:regionOk p=true) (hne:p≠[]) (hq:∀ h∈q,halfOk h=true):(meetI (meetL (p++q))).length≤p.length+q.length:=by
 have:=nodup_len (meetI_sorted (meetL_good (app_ok (reg_ok hp) hq))).nodup (meet_sub hp hne hq)
 rw [List.length_append] at this
 exact this
theorem meet_app_ok {p q:List Half} (hp:regionOk p=true) (hne:p≠[]) (hq:∀ h∈q,halfOk h=true) (hl:p.length+q.length≤40):meetOk (meetL (p++q))=true:=by
 have:=meet_len hp hne hq
 unfold meetOk
 rw [decide_eq_true_iff]
 omega
/-- A region within bounds that was made is valid. -/
theorem regionOk_meetR {hs:List Half} (hok:∀ h∈hs,halfOk h=true):regionOk (meetR (meetL hs))=true:=by
 unfold meetR
 split
 ·rename_i h
  exact regionOk_meet hok (by simpa [meetOk] using h)
 ·rfl
/-- Which half planes stand in a list decides, not their order. -/
theorem tight_sub {a b:List Half} (ha:∀ h∈a,halfOk h=true) (hb:∀ h∈b,halfOk h=true) (h:∀ x,x∈a ↔ x∈b):∀ x∈gtight a,x∈gtight b:=by
 intro x hx
 have c1:=tight_canon (hs:=a) (fun f hf=>(hOk (ha f hf)).n)
 have c2:=tight_canon (hs:=b) (fun f hf=>(hOk (hb f hf)).n)
 have xa:=c1.mem x hx
 obtain ⟨y,hy,cy⟩:=c2.cov x ((h x).1 xa)
 have yb:=c2.mem y hy
 obtain ⟨z,hz,cz⟩:=c1.cov y ((h y).2 yb)
 have za:=c1.mem z hz
 have s:=same_trans (hOk (ha z za)).n (hOk (hb y yb)).n cz.1 cy.1
 have e:=c1.sorted.same (fun f hf=>(hOk (ha f (c1.mem f hf))).n) hz hx s
 subst e
 have:=half_eq (hb y yb) (ha z za) cy.1 (by have:=cy.2;have:=cz.2;omega)
 subst this
 exact hy
theorem meetL_ext {a b:List Half} (ha:∀ h∈a,halfOk h=true) (hb:∀ h∈b,halfOk h=true) (h:∀ x,x∈a ↔ x∈b):meetL a=meetL b:=by
 have h1:∀ x,x∈gframe++a ↔ x∈gframe++b:=fun x=>by rw [List.mem_append,List.mem_append,h x]
 have n1:=fun f hf=>(hOk (frame_all ha f hf)).n
 have n2:=fun f hf=>(hOk (frame_all hb f hf)).n
 exact gsorted_ext (tight_canon n1).sorted (tight_canon n2).sorted (fun x=>⟨tight_sub (frame_all ha) (frame_all hb) h1 x,tight_sub (frame_all hb) (frame_all ha) (fun y=>(h1 y).symm) x⟩)
