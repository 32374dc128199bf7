/-
 The inputs that are admitted under a drift: of the program and of the reference.
 Conditions: the slices hold at most 2^20 elements.
-/
import Derived.Deep.RegionHeld3
import Derived.Deep.DeepMust
import Derived.Deep.DeepCutAuto
import Derived.Test.YtbekjpkcicjcgabGreatGrXgQa
import Derived.Test.YtbekjpkcicjcgabGreatGrXaQa
namespace Go.Proofs.YtbekjpkcicjcgabGreat
open Go.RowKit
theorem spotIn {s:XW} (h:XP s=true):s.In:=by
 obtain ⟨h1,h2,h3,_⟩:=ZO.1 h;exact ⟨⟨by omega,by omega⟩,⟨by omega,by omega⟩,⟨by omega,by omega⟩⟩
theorem rok_bd {r:Yu} (h:XE r=true) : -9223372036854775807<=r.n/\r.n<=9223372036854775807/\0<r.d/\r.d<=9223372036854775807:=by
 obtain ⟨⟨a,b⟩,⟨c,d⟩,_⟩:=KJ.1 h;exact ⟨by omega,by omega,by omega,by omega⟩
section
variable {v:Span} {wish:Int} (h:spanOk v=true)
include h
end
def hasS (p:List Half) (s:XW):Bool:=!decide (p.length=0)&&XP s&&Xc p&&Zl p s
variable {r:XK} {p:List Half} {s:XW} {ws:List Int} {ns:List XW}
end Go.Proofs.YtbekjpkcicjcgabGreat
namespace Go.Proofs.YtbekjpkcicjcgabGreat
open Go.RowKit
theorem holdsH_pt {h:Half} {s:XW}:holdsH s h=true ↔ Yp h s.x s.y s.d:=by
 unfold holdsH valS Yp;rw [decide_eq_true_eq];omega
theorem holdsB_pt {p:List Half} {s:XW}:Zl p s=true ↔ p≠[]/\InP p s.x s.y s.d:=by
 unfold Zl InP;rw [Bool.and_eq_true,List.all_eq_true];constructor
 ·rintro ⟨h1,h2⟩;exact ⟨by rintro rfl;simp at h1,λ h hh=>holdsH_pt.1 (h2 h hh)⟩
 ·rintro ⟨h1,h2⟩;refine ⟨?_,λ h hh=>holdsH_pt.2 (h2 h hh)⟩;cases p with
  | nil=>exact absurd rfl h1
  | cons a l=>simp
theorem pts_within {p q:List Half} (hp:Xc p=true) (hq:p≠[]->q≠[]) (h:p≠[]->∀ x y d,0<d->InP p x y d->InP q x y d):withinB p q=true:=by
 unfold withinB;rw [List.all_eq_true];intro s hs;have hne:p≠[]:=by rintro rfl;simp [XD] at hs
 obtain ⟨h1,h2⟩:=corner_in hp hs;have:=spot_pos h2;exact holdsB_pt.2 ⟨hq hne,h hne _ _ _ (by omega) h1⟩
theorem ne_of_inner {hs:List Half} (hok:∀ h∈hs,Xq h=true) {x y d:Int} (hd:0<d) (hst:∀ f∈Yj++hs,f.a*x+f.b*y<f.c*d):Xw (Xk hs)≠[]:=by
 have gd:=Zj hok;have c:=YI (hs:=Yj++hs) (λ f hf=>(KE (Ze hok f hf)).n);have hst':∀ f∈Xk hs,0<slk x y d f:=by
  intro f hf;have:=hst f (c.mem f hf);unfold slk;omega
 obtain ⟨e,he,hedge⟩:=edge_exists gd hd hst';have hv:¬ voidB (Xk hs)=true:=λ h=>nvoid_of gd hst' hd ((Jv gd).1 h);rw [meetI_nvoid hv];intro h0;have:e∈(Xk hs).filter (Kj (Xk hs)):=List.mem_filter.2 ⟨he,(edge_iff gd (gd.nz e he)).2 hedge⟩;rw [h0] at this;cases this
end Go.Proofs.YtbekjpkcicjcgabGreat
