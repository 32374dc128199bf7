/-
 The modes of a plant in a state: which of them admit an input, and the weakest one; in plain words.
 Conditions: none.
-/
import Derived.Test.YtkjimfapbjdafaaGreatNewRQb
import Derived.Test.YtkjimfapbjdafaaGreatModMQa
namespace Go.Proofs.YtkjimfapbjdafaaGreat
open Go.RowKit
def sfK (r:XT) (l:List ZP) (p:List Half) (s:X0):Nat->List Int
 | 0=>[]
 | k+1=>if (modA r l p s k).isSome=true then sfK r l p s k++[(k:Int)] else sfK r l p s k
def Ji (r:XT) (l:List ZP) (p:List Half) (s:X0):List Int:=if YJ r l=true then sfK r l p s l.length else []
theorem sfK_yes {r:XT} {l:List ZP} {p:List Half} {s:X0} {k:Nat} (h:(modA r l p s k).isSome=true):sfK r l p s (k+1)=sfK r l p s k++[(k:Int)]:=by rw [sfK,if_pos h]
theorem sfK_no {r:XT} {l:List ZP} {p:List Half} {s:X0} {k:Nat} (h:(modA r l p s k).isSome=false):sfK r l p s (k+1)=sfK r l p s k:=by rw [sfK,if_neg (by rw [h];simp)]
theorem sfK_len (r:XT) (l:List ZP) (p:List Half) (s:X0):∀ k,(sfK r l p s k).length<=k
 | 0=>Nat.le_refl _
 | k+1=>by
  have:=sfK_len r l p s k;rw [sfK];split
  ·rw [List.length_append];simp only [List.length_cons,List.length_nil];omega
  ·omega
theorem sfR_le (r:XT) (l:List ZP) (p:List Half) (s:X0):(Ji r l p s).length<=1048576:=by
 unfold Ji;split
 ·rename_i h
  have:=sfK_len r l p s l.length;have:=(modes_room h).2.2;omega
 ·exact Nat.zero_le _
theorem sf_no {r:XT} {l:List ZP} {p:List Half} {s:X0} (hm:YJ r l=false):Ji r l p s=[]:=by
 unfold Ji;rw [if_neg (by rw [hm];simp)]
theorem sf_yes {r:XT} {l:List ZP} {p:List Half} {s:X0} (hm:YJ r l=true):Ji r l p s=sfK r l p s l.length:=by
 unfold Ji;rw [if_pos hm]
end Go.Proofs.YtkjimfapbjdafaaGreat
