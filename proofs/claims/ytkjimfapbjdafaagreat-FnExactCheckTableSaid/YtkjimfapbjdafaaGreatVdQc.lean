/-
 The remainder as a step of a region; spans of the corners of a cell, in plain words.
 Conditions: none.
-/
import Derived.Test.YtkjimfapbjdafaaGreatGrXaQc
namespace Go.Proofs.YtkjimfapbjdafaaGreat
open Go.RowKit
def accH (H:X0->Bool) (A:X0->Option YY) (l:List X0):Nat->Option YY
 | 0=>some Xd
 | k+1=>(accH H A l k).bind λ w=>if H (l.getD k Zb)=true then (A (l.getD k Zb)).bind λ v=>if k=0 then some v else Yl w v else none
theorem accH_eq {H:X0->Bool} {A:X0->Option YY} {l:List X0}:∀ k,k<=l.length->accH H A l k=if (l.take k).all H=true then KG A l k else none
 | 0,_=>by rw [accH,KG,List.take_zero];rfl
 | k+1,hk=>by
  have h:k<l.length:=by omega
  rw [accH,accH_eq k (by omega),KG,List.take_add_one,List.getElem?_eq_getElem h,List.all_append,getD_el h];simp only [Option.toList_some,List.all_cons,List.all_nil,Bool.and_true];rcases Bool.eq_false_or_eq_true ((l.take k).all H) with h1|h1
  ·rw [h1,if_pos rfl,Bool.true_and];rcases Bool.eq_false_or_eq_true (H l[k]) with h2|h2
   ·rw [h2];simp
   ·rw [h2];cases KG A l k<;>simp
  ·rw [h1,if_neg (by simp),Bool.false_and,if_neg (by simp)];rfl
theorem accH_none {H:X0->Bool} {A:X0->Option YY} {l:List X0} {k:Nat} (h:accH H A l k=none):∀ m,accH H A l (k+m)=none
 | 0=>h
 | m+1=>by
  have:=accH_none h m;show (accH H A l (k+m)).bind _=none;rw [this];rfl
theorem accH_first {H:X0->Bool} {A:X0->Option YY} {l:List X0} {k:Nat} {wv:YY} (h0:k=0) (hacc:accH H A l k=some wv) (h1:H (l.getD k Zb)=true) (h2:(A (l.getD k Zb)).isSome=true):accH H A l (k+1)=some ((A (l.getD k Zb)).getD Xd):=by
 obtain ⟨v,hv⟩:=Option.isSome_iff_exists.1 h2;rw [accH,hacc,Option.bind_some,if_pos h1,hv,Option.bind_some,if_pos h0,Option.getD_some]
theorem accH_next {H:X0->Bool} {A:X0->Option YY} {l:List X0} {k:Nat} {wv:YY} (h0:k≠0) (hacc:accH H A l k=some wv) (h1:H (l.getD k Zb)=true) (h2:(A (l.getD k Zb)).isSome=true) (h3:(Yl wv ((A (l.getD k Zb)).getD Xd)).isSome=true):accH H A l (k+1)=some ((Yl wv ((A (l.getD k Zb)).getD Xd)).getD Xd):=by
 obtain ⟨v,hv⟩:=Option.isSome_iff_exists.1 h2;rw [hv,Option.getD_some] at h3;obtain ⟨u,hu⟩:=Option.isSome_iff_exists.1 h3;rw [accH,hacc,Option.bind_some,if_pos h1,hv,Option.bind_some,if_neg h0,Option.getD_some,hu,Option.getD_some]
theorem accH_stop1 {H:X0->Bool} {A:X0->Option YY} {l:List X0} {k:Nat} {wv:YY} (hacc:accH H A l k=some wv) (h:(!(H (l.getD k Zb)) || !((A (l.getD k Zb)).isSome))=true):accH H A l (k+1)=none:=by
 rw [accH,hacc,Option.bind_some];rcases Bool.eq_false_or_eq_true (H (l.getD k Zb)) with h1|h1
 ·rw [h1] at h;rw [if_pos h1];cases e:A (l.getD k Zb) with
  | none=>rfl
  | some v=>rw [e] at h;cases h
 ·rw [if_neg (by rw [h1];simp)]
theorem accH_stop2 {H:X0->Bool} {A:X0->Option YY} {l:List X0} {k:Nat} {wv:YY} (h0:k≠0) (hacc:accH H A l k=some wv) (h1:H (l.getD k Zb)=true) (h2:(A (l.getD k Zb)).isSome=true) (h3:(Yl wv ((A (l.getD k Zb)).getD Xd)).isSome=false):accH H A l (k+1)=none:=by
 obtain ⟨v,hv⟩:=Option.isSome_iff_exists.1 h2;rw [hv,Option.getD_some] at h3;rw [accH,hacc,Option.bind_some,if_pos h1,hv,Option.bind_some,if_neg h0];cases e:Yl wv v with
 | none=>rfl
 | some u=>rw [e] at h3;cases h3
theorem accH_end {H:X0->Bool} {A:X0->Option YY} {l:List X0} {k n:Nat} (hk:k<n) (h:accH H A l (k+1)=none):accH H A l n=none:=by
 have:=accH_none h (n-(k+1));rwa [show k+1+(n-(k+1))=n by omega] at this
end Go.Proofs.YtkjimfapbjdafaaGreat
