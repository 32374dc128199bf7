/-
 What the program says of FnExactLowRegions, by the kernel.
 Conditions: none.
-/
import Derived.JoinedOf
import Derived.Deep.QuietTactic
import Derived.BigQuiet
import Derived.Deep.DrawnRows
import Derived.Lib.SliceRun
import Derived.Deep.RegionHeld3
import Derived.Deep.DeepMust
import Derived.Deep.DeepCutAuto
import Derived.Test.YtbekjpkcicjcgabGreatGrPQb
import Derived.Test.YtbekjpkcicjcgabGreatGeo9
namespace Go.Proofs.YtbekjpkcicjcgabGreat
open Go.RowKit
theorem j3_LowRegions:(Rows.fnExactLowRegionsRow.recurses == Tryz.prog.recurses 4)=true:=by kernel_rfl
theorem j4_LowRegions:(Rows.fnExactLowRegionsRow.named == Tryz.prog.varsNamed 4)=true:=by kernel_rfl
theorem j1_LowRegions:(Rows.fnExactLowRegionsRow.inPlace == Tryz.prog.inPlace 4)=true:=by kernel_rfl
theorem j2_LowRegions:(Rows.fnExactLowRegionsRow.unfollowed == Tryz.prog.unfollowed 4)=true:=by kernel_rfl
open Classical in
theorem ZJ {P:Program} {f:FuncId} {args:Array Value} {w t:World} {v:Value}
 (h:Calls P f args (Wx w t) λ e w'=>e=.returned v/\Below (Wx w t).heap.size (Wx w t) w'):Calls P f args (Wx w t) λ e w''=>e=.returned v/\∃ t',w''=Wx w t' :=
 h.mono λ _ w' ⟨he,hb⟩=>⟨he,w',Wx.of (Xg (Wx.below w t) hb)⟩
theorem YA {P:Program} {f:FuncId} {args:Array Value} {w t:World} {v:Value}
 (h:Calls P f args (Wx w t) λ e w'=>e=.returned v/\Wx w t=w'):Calls P f args (Wx w t) λ e w''=>e=.returned v/\∃ t',w''=Wx w t' :=
 h.mono λ _ _ ⟨he,hb⟩=>⟨he,t,hb.symm⟩
theorem JL {P:Program} {id:Nat} {Q:Exit->Act->World->Prop} {a:Act} {w:World} {l:List Oper} (hm:P.follows .mixedOrders=true) (A:Region.lexB .any l.toArray=true)
 (h:wpQuiet P l.toArray (λ w'=>∃ t,w'=Wx w t) (λ a'=>∀ w',(∃ t,w'=Wx w t)->Q .normal a' w') l a):(Code.region id l.toArray true).wp P Q a w :=
 wp_region_quiet (C:=λ w'=>∃ t,w'=Wx w t) hm A ⟨_,Wx.of ((Below.refl w.heap.size w).drew)⟩ (by simpa using h)
theorem Xv.neT {w:World} {g g' T T':Nat} {vs vs':List Value} (h:Xv w g T vs) (h':Xv w g' T' vs') (hne:T≠T'):g≠g':=by
 intro e;subst e;rw [Xv] at h h';rw [h] at h';simp at h';exact hne h'.2
section
variable {W w w':World} {a:Act} {s T g g':Nat} {z:List Value} {b:Bool} {C:World->List Value->Prop} {k:Option Nat} {v:Value}
end
section
variable {P:Program} {o:Oper} {a:Act} {w:World} {N:Act->World->Prop} {Q:Exit->Act->World->Prop}
end
section
variable {K:Act->World->Prop} {Q:Exit->Act->World->Prop} {a:Act} {w:World} {i k:Nat}
end
theorem wnt_u {o oj:Oper} {ops:Array Oper} {a:Act} {R S:Prop} {j s:Nat} {b:Bool} (hg:o.guard=some (j,b)) (hj:ops[j]? = some oj) (hd:oj.dst=some s) (hv:a.tmps[s]?.getD undef=undef) (h:S):if Region.wanted o (yielded ops a.tmps)=true then R else S:=by
 rw [if_neg]
 ·exact h
 ·unfold Region.wanted;rw [hg];simp only [yielded,hj,Option.bind_some,hd];cases e:a.tmps[s]? with
  | none=>simp
  | some v =>
   rw [e] at hv;simp only [Option.getD_some] at hv;rw [hv];simp [undef]
theorem oNDX {P:Program} {a0:Act} {w0:World} {D M ss:List Nat} {dl:List (List Nat)} {vs:List (Option Value)} {X:(Nat->Bool)->Act->World->Prop} {o:Oper} {i:Nat} (j:Nat) {b:Bool} {T:TypeId} (h:o.op=.unOp .not T (.tmp (ss.getD j 0))) (hj:vs[j]? = some (some (.bool b))) (hc:(dl.getD i []).contains j=true) (hv:Zt vs[i]? (.bool (!b))) (hx:∀ L a w v,X L a w->X (Yb L i) (a.put o.dst v) w) :
 ∀ (Lk:Nat->Bool) (a:Act) (w:World),OX a0 w0 D M ss dl vs X i Lk a w->∀ (N:Act->World->Prop) (Q:Exit->Act->World->Prop),(∀ v w',Kp M w0 w'->Zt vs[i]? v->X (Yb Lk i) (a.put o.dst v) w'->N (a.put o.dst v) w')->o.wp P a w N Q :=
 λ _ _ _ H _ _ hN=>wp_not h (ev (H.d j hj hc)) (hN _ _ H.k hv (hx _ _ _ _ H.x))
theorem oEDT {P:Program} {a0:Act} {w0:World} {D M ss:List Nat} {dl:List (List Nat)} {vs:List (Option Value)} {o:Oper} {i:Nat} (j:Nat) {k:Nat} {us:Array Value} {v:Value} (h:o.op=.extract (.tmp (ss.getD j 0)) k) (hj:vs[j]? = some (some (.tuple us))) (hc:(dl.getD i []).contains j=true) (hu:us[k]? = some v) (hv:Zt vs[i]? v) :
 ∀ (Lk:Nat->Bool) (a:Act) (w:World),OX a0 w0 D M ss dl vs (λ _ _ _=>True) i Lk a w->∀ (N:Act->World->Prop) (Q:Exit->Act->World->Prop),(∀ v w',Kp M w0 w'->Zt vs[i]? v->True->N (a.put o.dst v) w')->o.wp P a w N Q :=
 λ _ _ _ H _ _ hN=>X1 h (ev (H.d j hj hc)) hu (hN _ _ H.k hv trivial)
set_option maxRecDepth 100000 in
theorem KH (A:Option Addr) (m:List Int) (cap:Nat) (q:Int) (w:World) (hl:m.length<=1048576) (hs:Sl 1 KX w A m) :
 Calls Tryz.prog 95 #[.slice A m.length cap,.int .i64 q] w λ e w'=>e=.returned (.bool (ZT m q))/\w=w':=by
 by_cases h4:m.length=4
 ·have h4':((m.length:Int) != 4)=false:=by simp [h4]
  cases hq:Zo q 1 20
  ·have h1:=Lib.hid (show ZT m q=false by simp [ZT,hq]);have cq:=λ W=>XQ q 1 20 W;rw [hq] at cq;clear h4;go_enter Tryz.func95,Tryz.ntmps95
   go_wp2_with (fail)
   refine (cq _).mono ?_;rintro e w' ⟨rfl,rfl⟩;go_wp2
   go_ret
   exact ⟨Xi h1.out.symm,rfl⟩
  ·have h1:=Lib.hid (show ZT m q=m.all (λ x=>Zo x (-20) 20) by simp [ZT,hq,h4]);have cq:=λ W=>XQ q 1 20 W;rw [hq] at cq;clear h4;go_enter Tryz.func95,Tryz.ntmps95
   go_wp2_with (fail)
   refine (cq _).mono ?_;rintro e w' ⟨rfl,rfl⟩;clear cq;go_wp2
   go_loopw [4,6,17] (λ v2 _ i wr=>∃ k:Nat,v2=.bool false/\k<=m.length/\i=.int .i64 k/\Hid (∀ x∈m.take k,Zo x (-20) 20=true)/\w=wr) (λ _ _ i _=>m.length-(intOf i).toNat)
   case atStart=>exact ⟨0,rfl,Nat.zero_le _,rfl,by simp [Hid],rfl⟩
   case round =>
    obtain ⟨k,rfl,hk,rfl,htk,h⟩:=hrel;obtain rfl:w=wr:=h;by_cases hlt:k<m.length
    ·obtain ⟨b,off,rfl,hblt,hc⟩:=hs.at_ hlt;have g0:=hc 0 _ rfl;simp only [Nat.add_zero,Nat.mul_one] at g0;have cx:=λ W=>XQ m[k] (-20) 20 W;have hbad:=Lib.hid (λ h=>@map_no m k hlt h);have hgood:=Lib.hid (λ h=>@map_all m k hlt htk.out h);have i1:(k:Int)<(m.length:Int):=by omega
     clear hc htk;generalize m[k]=x at *;cases hv:Zo x (-20) 20
     ·rw [hv] at cx;have h2:=Lib.hid (h1.out.trans (hbad.out hv));clear hbad hgood h1;go_wp2_with (fail)
      refine (cx _).mono ?_;rintro e w' ⟨rfl,rfl⟩;go_wp2
      go_ret
      exact ⟨Xi h2.out.symm,rfl⟩
     ·rw [hv] at cx;have h2:=Lib.hid (hgood.out hv);clear hbad hgood;go_wp2_with (fail)
      refine (cx _).mono ?_;rintro e w' ⟨rfl,rfl⟩;go_wp2
      go_roundw
      case rel=>exact ⟨k+1,rfl,by omega,by go_num,h2,trivial⟩
      case measure=>simp [intOf];omega
    ·obtain rfl:k=m.length:=by omega
     have h2:=Lib.hid (h1.out.trans (map_yes htk.out));clear htk h1;go_wp2
     go_ret
     exact ⟨Xi h2.out.symm,rfl⟩
 ·have h4':((m.length:Int) != 4)=true:=by simp;omega
  have h1:=Lib.hid (show ZT m q=false by simp [ZT,h4]);clear h4;go_enter Tryz.func95,Tryz.ntmps95
  go_wp2
  go_ret
  exact ⟨Xi h1.out.symm,rfl⟩
end Go.Proofs.YtbekjpkcicjcgabGreat
