/-
 The inputs that are admitted under a drift: of the program and of the reference.
 Conditions: the slices hold at most 2^20 elements.
-/
import Derived.Test.YtkjimfapbjdafaaGreatV1
import Derived.Test.YtkjimfapbjdafaaGreatGrXg
namespace Go.Proofs.YtkjimfapbjdafaaGreat
open Go.RowKit
theorem span0_In:Xd.In:=by
 have h:YD 0:=⟨by decide,by decide⟩
 exact ⟨⟨h,h⟩,⟨h,h⟩⟩
theorem optIn {x:Option YX} (h:∀ v,x=some v→Xv v=true):(x.getD Xd).In:=by
 cases x with
 | none=>exact span0_In
 | some v=>exact span_In (h v rfl)
theorem admAt_ok {r:XN} {p:List Half} {s:XJ} {v:YX} (h:XO r p s=some v):Xv v=true:=by
 unfold XO at h
 split at h
 ·exact Jz h
 ·cases h
theorem accS_ok {A:XJ→Option YX} (hA:∀ t v,A t=some v→Xv v=true) {l:List XJ} {k:Nat} {v:YX} (h:KC A l (k+1)=some v):Xv v=true:=by
 rw [KC] at h
 cases e:KC A l k with
 | none=>rw [e] at h;cases h
 | some x =>
  rw [e] at h
  simp only [Option.bind_some] at h
  cases e2:A (l.getD k Zb) with
  | none=>rw [e2] at h;cases h
  | some y =>
   rw [e2] at h
   simp only [Option.bind_some] at h
   split at h
   ·cases h;exact hA _ _ e2
   ·exact meetSp_ok h
end Go.Proofs.YtkjimfapbjdafaaGreat
namespace Go.Proofs.YtkjimfapbjdafaaGreat
open Go.RowKit
def Yp (r:Yd):Int:=if Xp r=true then r.n / r.d else 0
def YL (r:Yd):Int:=if Xp r=true then -(-r.n / r.d) else 0
def Ju (w:YX) (u:Yd):Bool:=Xv w&&Xp u&&decide (Xq w.low u≤0)&&decide (Xq u w.high≤0)
theorem ratio_whole {n:Int} (h : -1000000000000000000≤n∧n≤1000000000000000000):XG n 1=⟨n,1⟩:=by
 obtain ⟨_,k,hk,e1,e2⟩:=YN (n:=n) (d:=1) h ⟨by omega,by omega⟩
 have h1:k ∣ 1:=⟨_,e2⟩
 have h2:k≤1:=Int.le_of_dvd (by omega) h1
 have h3:k=1:=by omega
 subst h3
 rw [Int.one_mul] at e1 e2
 cases hq:XG n 1 with
 | mk a b=>rw [hq] at e1 e2;simp only at e1 e2;rw [e1,← e2]
theorem whole_ok {n:Int} (h : -1000000000000000000≤n∧n≤1000000000000000000):Xp ⟨n,1⟩=true:=by
 have:=(YN (n:=n) (d:=1) h ⟨by omega,by omega⟩).1
 rwa [ratio_whole h] at this
theorem rok_bd {r:Yd} (h:Xp r=true) : -9223372036854775807≤r.n∧r.n≤9223372036854775807∧0<r.d∧r.d≤9223372036854775807:=by
 obtain ⟨⟨a,b⟩,⟨c,d⟩,_⟩:=Y7.1 h
 exact ⟨by omega,by omega,by omega,by omega⟩
theorem div_bd {n d:Int} (h1 : -9223372036854775807≤n) (h2:n≤9223372036854775807) (hd:0<d) : -9223372036854775807≤n / d∧n / d≤9223372036854775807:=J4 hd 9223372036854775807 (by omega) (by omega) (by omega)
theorem floor_bd {r:Yd} (h:Xp r=true) : -1000000000000000000≤Yp r∧Yp r≤1000000000000000000:=by
 obtain ⟨⟨a,b⟩,⟨c,d⟩,_⟩:=Y7.1 h
 unfold Yp
 rw [if_pos h]
 exact J4 (by omega) 1000000000000000000 (by omega) (by omega) (by omega)
theorem ceil_bd {r:Yd} (h:Xp r=true) : -1000000000000000000≤YL r∧YL r≤1000000000000000000:=by
 obtain ⟨⟨a,b⟩,⟨c,d⟩,_⟩:=Y7.1 h
 unfold YL
 rw [if_pos h]
 have:=J4 (n:=-r.n) (d:=r.d) (by omega) 1000000000000000000 (by omega) (by omega) (by omega)
 omega
theorem cmp_def {r s:Yd} (hr:Xp r=true) (hs:Xp s=true):Xq r s=sgn (r.n*s.d-s.n*r.d):=by
 unfold Xq;rw [if_pos ⟨hr,hs⟩];rfl
def clampW (wish:Int):Int:=max (-1000) (min 1000 wish)
def pick (v:YX) (wish:Int):Yd :=
 if Xv v=true then
  (if Xq ⟨clampW wish,1⟩ v.low<0 then (if Xq ⟨YL v.low,1⟩ v.high≤0 then ⟨YL v.low,1⟩ else v.low)
  else if Xq ⟨clampW wish,1⟩ v.high > 0 then (if Xq ⟨Yp v.high,1⟩ v.low ≥ 0 then ⟨Yp v.high,1⟩ else v.high)
  else ⟨clampW wish,1⟩)
 else YW
section
variable {v:YX} {wish:Int} (h:Xv v=true)
include h
end
end Go.Proofs.YtkjimfapbjdafaaGreat
