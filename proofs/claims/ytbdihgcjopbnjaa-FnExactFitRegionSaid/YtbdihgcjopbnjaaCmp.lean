/-
  How fractions are compared: of the program (products of 128 bits) and of the reference (continued remainders); the lesser and the greater one; spans.
  Conditions: the numbers are ints of the machine.
-/
import Derived.Test.YtbdihgcjopbnjaaNum2
import Derived.Test.YtbdihgcjopbnjaaBel
import Derived.Shelf.Bits.Mul64
namespace Go.Proofs.Ytbdihgcjopbnjaa
open Go.RowKit

def sgn (x : Int) : Int := if x < 0 then -1 else if 0 < x then 1 else 0
theorem sgn_neg (x : Int) : sgn (-x) = -sgn x := by unfold sgn; split <;> split <;> (try split) <;> (try split) <;> omega
theorem sgn_bd (x : Int) : -1 ≤ sgn x ∧ sgn x ≤ 1 := by unfold sgn; split <;> (try split) <;> omega
theorem sgn_of_neg {x : Int} (h : x < 0) : sgn x = -1 := by unfold sgn; rw [if_pos h]
theorem sgn_of_pos {x : Int} (h : 0 < x) : sgn x = 1 := by unfold sgn; rw [if_neg (by omega), if_pos h]
theorem sgn_zero : sgn 0 = 0 := rfl
/-- a / b against c / d, for positive b and d. -/
def cmpF (a b c d : Int) : Int := sgn (a * d - c * b)
theorem cmpF_bd (a b c d : Int) : -1 ≤ cmpF a b c d ∧ cmpF a b c d ≤ 1 := sgn_bd _

theorem cmpF_neg_pos {a b c d : Int} (hb : 0 < b) (hd : 0 < d) (ha : a < 0) (hc : 0 ≤ c) : cmpF a b c d = -1 := by
  apply sgn_of_neg
  have h1 : a * d < 0 := Int.mul_neg_of_neg_of_pos ha hd
  have h2 : 0 ≤ c * b := Int.mul_nonneg hc (by omega)
  omega
theorem cmpF_pos_neg {a b c d : Int} (hb : 0 < b) (hd : 0 < d) (ha : 0 ≤ a) (hc : c < 0) : cmpF a b c d = 1 := by
  apply sgn_of_pos
  have h1 : c * b < 0 := Int.mul_neg_of_neg_of_pos hc hb
  have h2 : 0 ≤ a * d := Int.mul_nonneg ha (by omega)
  omega
theorem absmul {a d : Int} (hd : 0 < d) : ((a.natAbs * d.natAbs : Nat) : Int) = if a < 0 then -(a * d) else a * d := by
  rw [Int.natCast_mul]
  have e : ((d.natAbs : Nat) : Int) = d := by omega
  rw [e]
  split
  · have : ((a.natAbs : Nat) : Int) = -a := by omega
    rw [this, Int.neg_mul]
  · have : ((a.natAbs : Nat) : Int) = a := by omega
    rw [this]
/-- The sign by the upper and the lower halves of the products. -/
theorem cmpF_halves {a b c d : Int} (hb : 0 < b) (hd : 0 < d) (X Y : Nat) (hX : X = a.natAbs * d.natAbs) (hY : Y = c.natAbs * b.natAbs) (hs : (a < 0 ∧ c < 0) ∨ (0 ≤ a ∧ 0 ≤ c)) :
    cmpF a b c d = if a < 0 then -(if Y < X then 1 else if X < Y then -1 else 0) else (if Y < X then 1 else if X < Y then -1 else 0) := by
  have h1 := absmul (a := a) hd
  have h2 := absmul (a := c) hb
  rw [← hX] at h1
  rw [← hY] at h2
  unfold cmpF sgn
  generalize a * d = p at *
  generalize c * b = q at *
  rcases hs with ⟨ha, hc⟩ | ⟨ha, hc⟩
  · rw [if_pos ha] at h1 ⊢
    rw [if_pos hc] at h2
    split <;> split <;> (try split) <;> (try split) <;> omega
  · rw [if_neg (show ¬ a < 0 by omega)] at h1 ⊢
    rw [if_neg (show ¬ c < 0 by omega)] at h2
    split <;> split <;> (try split) <;> (try split) <;> omega

set_option maxHeartbeats 1000000 in
theorem mul64_c (x y : Nat) (hx : x < 18446744073709551616) (hy : y < 18446744073709551616) (w : World) :
    Calls Try.prog 168 #[.int .u64 x, .int .u64 y] w fun e w' => e = .returned (.tuple #[.int .u64 ((x * y / 18446744073709551616 : Nat) : Int), .int .u64 ((x * y % 18446744073709551616 : Nat) : Int)]) ∧ w = w' := by
  obtain ⟨bd, bt, bw, hhi⟩ := Lib.mul64_hi x y hx hy
  have ba := Lib.half_mul_le (a := x / 4294967296) (b := y / 4294967296) (by omega) (by omega)
  have bb := Lib.half_mul_le (a := x / 4294967296) (b := y % 4294967296) (by omega) (by omega)
  have bc := Lib.half_mul_le (a := x % 4294967296) (b := y / 4294967296) (by omega) (by omega)
  have ba' : x / 4294967296 * (y / 4294967296) < 18446744073709551616 := by omega
  have bb' : x / 4294967296 * (y % 4294967296) < 18446744073709551616 := by omega
  have bc' : x % 4294967296 * (y / 4294967296) < 18446744073709551616 := by omega
  have bh1 : x / 4294967296 * (y / 4294967296) + (x / 4294967296 * (y % 4294967296) + x % 4294967296 * (y % 4294967296) / 4294967296) / 4294967296 < 18446744073709551616 := by omega
  have bh : x / 4294967296 * (y / 4294967296) + (x / 4294967296 * (y % 4294967296) + x % 4294967296 * (y % 4294967296) / 4294967296) / 4294967296 + ((x / 4294967296 * (y % 4294967296) + x % 4294967296 * (y % 4294967296) / 4294967296) % 4294967296 + x % 4294967296 * (y / 4294967296)) / 4294967296 < 18446744073709551616 := by omega
  go_enter Try.func168, Try.ntmps168
  go_wp2
  simp only [Mul64.maskN x hx, Mul64.maskN y hy, Mul64.divN, Mul64.mulN, Mul64.addN, Mul64.wrapN _ bd, Mul64.wrapN _ bb', Mul64.wrapN _ bt, Mul64.maskN _ bt, Mul64.wrapN _ bc', Mul64.wrapN _ bw, Mul64.wrapN _ ba', Mul64.wrapN _ bh1, Mul64.wrapN _ bh, Mul64.wrapM (x * y)]
  rw [hhi]
  go_ret2
  exact ⟨rfl, rfl⟩
set_option maxHeartbeats 2000000 in
theorem compareFractions_c (a b c d : Int) (w : World) (ha : In64 a) (hb : In64 b) (hc : In64 c) (hd : In64 d) (hb0 : 0 < b) (hd0 : 0 < d) :
    Calls Try.prog 117 #[.int .i64 a, .int .i64 b, .int .i64 c, .int .i64 d] w fun e w' => e = .returned (.int .i64 (cmpF a b c d)) ∧ w = w' := by
  have m1 := fun W => magnitude_c a W ha
  have m2 := fun W => magnitude_c d W hd
  have m3 := fun W => magnitude_c c W hc
  have m4 := fun W => magnitude_c b W hb
  have n1 := natAbs_le ha
  have n2 := natAbs_le hb
  have n3 := natAbs_le hc
  have n4 := natAbs_le hd
  have u1 := fun W => mul64_c a.natAbs d.natAbs (by omega) (by omega) W
  have u2 := fun W => mul64_c c.natAbs b.natAbs (by omega) (by omega) W
  have key := fun hs => Lib.hid (cmpF_halves hb0 hd0 (a.natAbs * d.natAbs) (c.natAbs * b.natAbs) rfl rfl hs)
  have k1 := fun h1 h2 => Lib.hid (cmpF_neg_pos (a := a) (c := c) hb0 hd0 h1 h2)
  have k2 := fun h1 h2 => Lib.hid (cmpF_pos_neg (a := a) (c := c) hb0 hd0 h1 h2)
  have K := Lib.hid key
  have K1 := Lib.hid k1
  have K2 := Lib.hid k2
  clear key k1 k2
  generalize hX : a.natAbs * d.natAbs = X at *
  generalize hY : c.natAbs * b.natAbs = Y at *
  clear hX hY
  by_cases a0 : a < 0
  · by_cases c0 : c < 0
    · have hk := K.out (.inl ⟨a0, c0⟩)
      clear K K1 K2
      go_enter Try.func117, Try.ntmps117
      go_wp2_with (first | (go_at_call 120; ((with_reducible refine (m1 _).mono ?_); rintro e w' ⟨rfl, rfl⟩)) | (go_at_call 120; ((with_reducible refine (m2 _).mono ?_); rintro e w' ⟨rfl, rfl⟩)) | (go_at_call 120; ((with_reducible refine (m3 _).mono ?_); rintro e w' ⟨rfl, rfl⟩)) | (go_at_call 120; ((with_reducible refine (m4 _).mono ?_); rintro e w' ⟨rfl, rfl⟩)) | (go_at_call 168; ((with_reducible refine (u1 _).mono ?_); rintro e w' ⟨rfl, rfl⟩)) | (go_at_call 168; ((with_reducible refine (u2 _).mono ?_); rintro e w' ⟨rfl, rfl⟩)))
      all_goals
        go_ret
        refine ⟨ret_int ?_, rfl⟩
        rw [hk.out, if_pos a0]
        split <;> (try split) <;> omega
    · have hk := K1.out a0 (by omega)
      clear K K1 K2
      go_enter Try.func117, Try.ntmps117
      go_wp2
      go_ret
      exact ⟨ret_int hk.out.symm, rfl⟩
  · by_cases c0 : c < 0
    · have hk := K2.out (by omega) c0
      clear K K1 K2
      go_enter Try.func117, Try.ntmps117
      go_wp2
      go_ret
      exact ⟨ret_int hk.out.symm, rfl⟩
    · have hk := K.out (.inr ⟨by omega, by omega⟩)
      clear K K1 K2
      go_enter Try.func117, Try.ntmps117
      go_wp2_with (first | (go_at_call 120; ((with_reducible refine (m1 _).mono ?_); rintro e w' ⟨rfl, rfl⟩)) | (go_at_call 120; ((with_reducible refine (m2 _).mono ?_); rintro e w' ⟨rfl, rfl⟩)) | (go_at_call 120; ((with_reducible refine (m3 _).mono ?_); rintro e w' ⟨rfl, rfl⟩)) | (go_at_call 120; ((with_reducible refine (m4 _).mono ?_); rintro e w' ⟨rfl, rfl⟩)) | (go_at_call 168; ((with_reducible refine (u1 _).mono ?_); rintro e w' ⟨rfl, rfl⟩)) | (go_at_call 168; ((with_reducible refine (u2 _).mono ?_); rintro e w' ⟨rfl, rfl⟩)))
      all_goals
        go_ret
        refine ⟨ret_int ?_, rfl⟩
        rw [hk.out, if_neg (show ¬ a < 0 by omega)]
        split <;> (try split) <;> omega
end Go.Proofs.Ytbdihgcjopbnjaa
