/-
  For every input FnExactModeRoom returns true: the program's ModeRoom and the reference's agree, and the results share no memory.
  Conditions: none.
-/
import Derived.Test.YtbdihgcjopbnjaaMRoom
import Derived.Test.YtbdihgcjopbnjaaGrN
import Derived.Test.YtbdihgcjopbnjaaGrO
import Derived.Test.YtbdihgcjopbnjaaGrA
import Derived.Test.YtbdihgcjopbnjaaGrE
import Derived.Test.YtbdihgcjopbnjaaGrP
import Derived.Test.YtbdihgcjopbnjaaInv2
import Derived.Deep.RegionHeld3
import Derived.Deep.DeepCutAuto
import Derived.Deep.DeepMust
namespace Go.Proofs.Ytbdihgcjopbnjaa
open Go.RowKit Go.ChangeShapes Go.WideShapes Go.ChangeAt Go.Deep

set_option maxRecDepth 100000 in
set_option maxHeartbeats 16000000 in
theorem walkModeRoom (w : World) (r : Room) (r_a : RoomA) (hin_r : RoomIn r) (hl_r : List.length r.map ≤ 9223372036854775807 ∧ List.length r.noise ≤ 9223372036854775807 ∧ List.length r.limits ≤ 9223372036854775807) (hs_r : RoomSl w r r_a) (m : Mode) (hin_m : m.In) :
    Calls Try.prog 12 #[roomV r r_a, modeV m] w fun e w' => e = .returned (.bool true) ∧ Below w.heap.size w w' := by
  by_cases c0 : 1048576 - ((roomLen r : Nat) : Int) < 0
  · skip
    go_enter Try.func12, Try.ntmps12
    go_wp2_with (fail)
    refine (szRoom_c r r_a (1048576) _ hl_r (by omega) (by omega)).mono ?_
    rw [if_pos (by omega)]
    rintro e w1 ⟨rfl, hb1⟩
    have r1 := bcell1 hb1
    have l1_0 : w.heap.size < w1.heap.size := blt hb1 (by first | (simp; done) | (simp; omega) | omega)
    have l1_1 : w.heap.size + 1 < w1.heap.size := blt hb1 (by first | (simp; done) | (simp; omega) | omega)
    go_wp2
    go_ret
    refine ⟨rfl, ?_⟩
    repeat (first | (with_reducible exact Below.refl _ _) | (with_reducible assumption) | (with_reducible refine below_al ?_ _) | (with_reducible refine Below.drew ?_) | (with_reducible refine below_drewN ?_ _) | (with_reducible refine below_st ?_ ?_ _) | (with_reducible refine below_tr ?_ (by assumption)) | (with_reducible exact Nat.le_refl _) | (focus (simp; done)) | (focus (simp; omega)))
  have hn_r : roomLen r ≤ 1048576 := by omega
  have k1 := fun W a' h h' => sModeRoom_c r a' m W hn_r hin_r hin_m h h'
  have k2 := fun W a' h h' => iModeRoom_c r a' m W hn_r hin_r hin_m h h'
  have hlen := modeRoom_le r m hn_r
  revert k1 k2 hlen
  generalize modeRoom r m = y
  generalize modeRoomOk r m = ok
  intro k1 k2 hlen
  go_enter Try.func12, Try.ntmps12
  go_wp2_with (fail)
  refine (szRoom_c r r_a (1048576) _ hl_r (by omega) (by omega)).mono ?_
  rw [if_neg (by omega)]
  rintro e w1 ⟨rfl, hb1⟩
  have r1 := bcell1 hb1
  have l1_0 : w.heap.size < w1.heap.size := blt hb1 (by first | (simp; done) | (simp; omega) | omega)
  have l1_1 : w.heap.size + 1 < w1.heap.size := blt hb1 (by first | (simp; done) | (simp; omega) | omega)
  have z1 : w.heap.size + 1 + 1 ≤ w1.heap.size := by have h := hb1.size; (try simp only [World.size_alloc] at h); omega
  go_upto_region 5 with fail
  obtain ⟨I2, hI2⟩ : ∃ I : Act → (Nat → Bool) → Act → World → Prop, I = (fun a0 L a w' => FrameOf a0 a [22, 23, 24, 25, 26, 21, 27, 28, 6, 7] ∧ Below w1.heap.size w1 w' ∧ (L 0 = true → a.tmps[22]?.getD undef = .agg #[.slice r_a.map.A (List.length r.map) r_a.map.c, .int .i64 r.div, .int .i64 r.bx, .int .i64 r.by_, .int .i64 r.low, .int .i64 r.high, .slice r_a.noise.A (List.length r.noise) r_a.noise.c, .slice r_a.limits.A (List.length r.limits) r_a.limits.c]) ∧ (L 1 = true → ∃ b : RoomA, a.tmps[23]?.getD undef = roomV r b ∧ RoomNew w' w1.heap.size r b) ∧ (L 2 = true → a.tmps[24]?.getD undef = .agg #[.int .i64 m.low, .int .i64 m.high]) ∧ (L 3 = true → a.tmps[25]?.getD undef = modeV m) ∧ (L 4 = true → ∃ b : RoomA, a.tmps[26]?.getD undef = .tuple #[roomV y b, .bool ok] ∧ RoomNew w' w1.heap.size y b) ∧ (L 5 = true → ∃ b : RoomA, a.tmps[21]?.getD undef = .tuple #[roomV y b, .bool ok] ∧ RoomNew w' w1.heap.size y b) ∧ (L 6 = true → ∃ b : RoomA, a.tmps[27]?.getD undef = roomV y b ∧ RoomNew w' w1.heap.size y b) ∧ (L 7 = true → a.tmps[28]?.getD undef = .bool ok) ∧ (L 8 = true → ∃ g, a.tmps[6]?.getD undef = .pointer (some ⟨g, 0, none⟩) ∧ w1.heap.size ≤ g ∧ (L 9 = false → HasT w' g 118 [.slice none 0 0, .int .i64 0, .int .i64 0, .int .i64 0, .int .i64 0, .int .i64 0, .slice none 0 0, .slice none 0 0]) ∧ (L 9 = true → (∃ b : RoomA, HasT w' g 118 [.slice b.map.A (List.length y.map) b.map.c, .int .i64 y.div, .int .i64 y.bx, .int .i64 y.by_, .int .i64 y.low, .int .i64 y.high, .slice b.noise.A (List.length y.noise) b.noise.c, .slice b.limits.A (List.length y.limits) b.limits.c] ∧ RoomNew w' w1.heap.size y b))) ∧ (L 10 = true → a.tmps[7]?.getD undef = .bool ok) ∧ (L 9 = true → L 8 = true)) := ⟨_, rfl⟩
  have P2 : Below w.heap.size w w1 := by (repeat (first | (with_reducible exact Below.refl _ _) | (with_reducible assumption) | (with_reducible refine below_al ?_ _) | (with_reducible refine Below.drew ?_) | (with_reducible refine below_drewN ?_ _) | (with_reducible refine below_st ?_ ?_ _) | (with_reducible refine below_tr ?_ (by assumption)) | (with_reducible exact Nat.le_refl _) | (focus (simp; done)) | (focus (simp; omega))))
  refine wp_region_I0 (by kernel_rfl) (by kernel_rfl) I2 ?h0 ?hs ?he
  case h0 =>
    rw [hI2]
    refine ⟨FrameOf.refl _ _, (Below.refl _ _).drew, ?_⟩
    simp
  case hs =>
    intro L a w' i o ho hLi hd hI'
    rw [hI2] at hI'
    obtain ⟨hF, hB, i0, i1, i2, i3, i4, i5, i6, i7, i8, i10, ist⟩ := hI'
    have hi : i < 11 := by
      rcases Nat.lt_or_ge i 11 with h | h
      · exact h
      · rw [List.getElem?_eq_none (by simpa using h)] at ho; cases ho
    have r' := bcell1 hB
    have z' := hB.size
    have PB := below_tr P2 hB
    obtain rfl | rfl | rfl | rfl | rfl | rfl | rfl | rfl | rfl | rfl | rfl : i = 0 ∨ i = 1 ∨ i = 2 ∨ i = 3 ∨ i = 4 ∨ i = 5 ∨ i = 6 ∨ i = 7 ∨ i = 8 ∨ i = 9 ∨ i = 10 := by omega
    · simp only [List.getElem?_cons_zero, Option.some.injEq] at ho
      subst ho
      rw [if_pos (by simp [Region.wanted])]
      have e1 : a.tmps[2]?.getD undef = .pointer (some ⟨w.heap.size, 0, none⟩) := hF.get (by decide)
      simp [go_sem, Array.getD_eq_getD_getElem?, e1, r', r1, l1_0]
      rw [hI2]
      exact ⟨hF.put (by decide) _, hB, fun _ => put_get_self (hF.lt (by simp)) _, fun h => by obtain ⟨b, e, N⟩ := (i1 (by simpa using h)); exact ⟨b, (put_get_ne (by decide) _).trans e, N⟩, fun h => (put_get_ne (by decide) _).trans (i2 (by simpa using h)), fun h => (put_get_ne (by decide) _).trans (i3 (by simpa using h)), fun h => by obtain ⟨b, e, N⟩ := (i4 (by simpa using h)); exact ⟨b, (put_get_ne (by decide) _).trans e, N⟩, fun h => by obtain ⟨b, e, N⟩ := (i5 (by simpa using h)); exact ⟨b, (put_get_ne (by decide) _).trans e, N⟩, fun h => by obtain ⟨b, e, N⟩ := (i6 (by simpa using h)); exact ⟨b, (put_get_ne (by decide) _).trans e, N⟩, fun h => (put_get_ne (by decide) _).trans (i7 (by simpa using h)), fun h => by obtain ⟨g, e, y0, y1, y2⟩ := (i8 (by simpa using h)); exact ⟨g, (put_get_ne (by decide) _).trans e, y0, fun h2 => (y1 (by simpa using h2)), fun h2 => (by obtain ⟨b, y3, y4⟩ := y2 (by simpa using h2); exact ⟨b, y3, y4⟩)⟩, fun h => (put_get_ne (by decide) _).trans (i10 (by simpa using h)), fun h => by have := ist (by simpa using h); simp [this]⟩
    · simp only [List.getElem?_cons_zero, List.getElem?_cons_succ, Option.some.injEq] at ho
      subst ho
      rw [if_pos (by simp [Region.wanted])]
      have e1 := i0 (hd { on := 0, ground := .data } (by simp) (by decide))
      simp [go_sem, Array.getD_eq_getD_getElem?, e1]
      refine (toRoom_c r r_a _ hn_r (RoomSl.below hs_r PB)).mono ?_
      rintro e wx ⟨bx, rfl, N1, hbx⟩
      rw [hI2]
      exact ⟨hF.put (by decide) _, below_tr hB hbx, fun h => (put_get_ne (by decide) _).trans (i0 (by simpa using h)), fun _ => ⟨bx, put_get_self (hF.lt (by simp)) _, N1.mono z'⟩, fun h => (put_get_ne (by decide) _).trans (i2 (by simpa using h)), fun h => (put_get_ne (by decide) _).trans (i3 (by simpa using h)), fun h => by obtain ⟨b, e, N⟩ := (i4 (by simpa using h)); exact ⟨b, (put_get_ne (by decide) _).trans e, (N.below hbx (Nat.le_refl _))⟩, fun h => by obtain ⟨b, e, N⟩ := (i5 (by simpa using h)); exact ⟨b, (put_get_ne (by decide) _).trans e, (N.below hbx (Nat.le_refl _))⟩, fun h => by obtain ⟨b, e, N⟩ := (i6 (by simpa using h)); exact ⟨b, (put_get_ne (by decide) _).trans e, (N.below hbx (Nat.le_refl _))⟩, fun h => (put_get_ne (by decide) _).trans (i7 (by simpa using h)), fun h => by obtain ⟨g, e, y0, y1, y2⟩ := (i8 (by simpa using h)); exact ⟨g, (put_get_ne (by decide) _).trans e, y0, fun h2 => ((y1 (by simpa using h2)).below hbx), fun h2 => (by obtain ⟨b, y3, y4⟩ := y2 (by simpa using h2); exact ⟨b, y3.below hbx, y4.below hbx (Nat.le_refl _)⟩)⟩, fun h => (put_get_ne (by decide) _).trans (i10 (by simpa using h)), fun h => by have := ist (by simpa using h); simp [this]⟩
    · simp only [List.getElem?_cons_zero, List.getElem?_cons_succ, Option.some.injEq] at ho
      subst ho
      rw [if_pos (by simp [Region.wanted])]
      have e1 : a.tmps[3]?.getD undef = .pointer (some ⟨w.heap.size + 1, 0, none⟩) := hF.get (by decide)
      simp [go_sem, Array.getD_eq_getD_getElem?, e1, r', r1, l1_1]
      rw [hI2]
      exact ⟨hF.put (by decide) _, hB, fun h => (put_get_ne (by decide) _).trans (i0 (by simpa using h)), fun h => by obtain ⟨b, e, N⟩ := (i1 (by simpa using h)); exact ⟨b, (put_get_ne (by decide) _).trans e, N⟩, fun _ => put_get_self (hF.lt (by simp)) _, fun h => (put_get_ne (by decide) _).trans (i3 (by simpa using h)), fun h => by obtain ⟨b, e, N⟩ := (i4 (by simpa using h)); exact ⟨b, (put_get_ne (by decide) _).trans e, N⟩, fun h => by obtain ⟨b, e, N⟩ := (i5 (by simpa using h)); exact ⟨b, (put_get_ne (by decide) _).trans e, N⟩, fun h => by obtain ⟨b, e, N⟩ := (i6 (by simpa using h)); exact ⟨b, (put_get_ne (by decide) _).trans e, N⟩, fun h => (put_get_ne (by decide) _).trans (i7 (by simpa using h)), fun h => by obtain ⟨g, e, y0, y1, y2⟩ := (i8 (by simpa using h)); exact ⟨g, (put_get_ne (by decide) _).trans e, y0, fun h2 => (y1 (by simpa using h2)), fun h2 => (by obtain ⟨b, y3, y4⟩ := y2 (by simpa using h2); exact ⟨b, y3, y4⟩)⟩, fun h => (put_get_ne (by decide) _).trans (i10 (by simpa using h)), fun h => by have := ist (by simpa using h); simp [this]⟩
    · simp only [List.getElem?_cons_zero, List.getElem?_cons_succ, Option.some.injEq] at ho
      subst ho
      rw [if_pos (by simp [Region.wanted])]
      have e1 := i2 (hd { on := 2, ground := .data } (by simp) (by decide))
      simp [go_sem, Array.getD_eq_getD_getElem?, e1]
      refine (toMode_c m _).mono ?_
      rintro e wx ⟨rfl, hbx⟩
      rw [hI2]
      exact ⟨hF.put (by decide) _, below_tr hB hbx, fun h => (put_get_ne (by decide) _).trans (i0 (by simpa using h)), fun h => by obtain ⟨b, e, N⟩ := (i1 (by simpa using h)); exact ⟨b, (put_get_ne (by decide) _).trans e, (N.below hbx (Nat.le_refl _))⟩, fun h => (put_get_ne (by decide) _).trans (i2 (by simpa using h)), fun _ => put_get_self (hF.lt (by simp)) _, fun h => by obtain ⟨b, e, N⟩ := (i4 (by simpa using h)); exact ⟨b, (put_get_ne (by decide) _).trans e, (N.below hbx (Nat.le_refl _))⟩, fun h => by obtain ⟨b, e, N⟩ := (i5 (by simpa using h)); exact ⟨b, (put_get_ne (by decide) _).trans e, (N.below hbx (Nat.le_refl _))⟩, fun h => by obtain ⟨b, e, N⟩ := (i6 (by simpa using h)); exact ⟨b, (put_get_ne (by decide) _).trans e, (N.below hbx (Nat.le_refl _))⟩, fun h => (put_get_ne (by decide) _).trans (i7 (by simpa using h)), fun h => by obtain ⟨g, e, y0, y1, y2⟩ := (i8 (by simpa using h)); exact ⟨g, (put_get_ne (by decide) _).trans e, y0, fun h2 => ((y1 (by simpa using h2)).below hbx), fun h2 => (by obtain ⟨b, y3, y4⟩ := y2 (by simpa using h2); exact ⟨b, y3.below hbx, y4.below hbx (Nat.le_refl _)⟩)⟩, fun h => (put_get_ne (by decide) _).trans (i10 (by simpa using h)), fun h => by have := ist (by simpa using h); simp [this]⟩
    · simp only [List.getElem?_cons_zero, List.getElem?_cons_succ, Option.some.injEq] at ho
      subst ho
      rw [if_pos (by simp [Region.wanted])]
      obtain ⟨b0, e0, M0⟩ := i1 (hd { on := 1, ground := .data } (by simp) (by decide))
      have e1 := i3 (hd { on := 3, ground := .data } (by simp) (by decide))
      simp [go_sem, Array.getD_eq_getD_getElem?, e0, e1]
      refine (k1 _ b0 M0.sl M0.nil).mono ?_
      rintro e wx ⟨bx, rfl, N1, hbx⟩
      rw [hI2]
      exact ⟨hF.put (by decide) _, below_tr hB hbx, fun h => (put_get_ne (by decide) _).trans (i0 (by simpa using h)), fun h => by obtain ⟨b, e, N⟩ := (i1 (by simpa using h)); exact ⟨b, (put_get_ne (by decide) _).trans e, (N.below hbx (Nat.le_refl _))⟩, fun h => (put_get_ne (by decide) _).trans (i2 (by simpa using h)), fun h => (put_get_ne (by decide) _).trans (i3 (by simpa using h)), fun _ => ⟨bx, put_get_self (hF.lt (by simp)) _, N1.mono z'⟩, fun h => by obtain ⟨b, e, N⟩ := (i5 (by simpa using h)); exact ⟨b, (put_get_ne (by decide) _).trans e, (N.below hbx (Nat.le_refl _))⟩, fun h => by obtain ⟨b, e, N⟩ := (i6 (by simpa using h)); exact ⟨b, (put_get_ne (by decide) _).trans e, (N.below hbx (Nat.le_refl _))⟩, fun h => (put_get_ne (by decide) _).trans (i7 (by simpa using h)), fun h => by obtain ⟨g, e, y0, y1, y2⟩ := (i8 (by simpa using h)); exact ⟨g, (put_get_ne (by decide) _).trans e, y0, fun h2 => ((y1 (by simpa using h2)).below hbx), fun h2 => (by obtain ⟨b, y3, y4⟩ := y2 (by simpa using h2); exact ⟨b, y3.below hbx, y4.below hbx (Nat.le_refl _)⟩)⟩, fun h => (put_get_ne (by decide) _).trans (i10 (by simpa using h)), fun h => by have := ist (by simpa using h); simp [this]⟩
    · simp only [List.getElem?_cons_zero, List.getElem?_cons_succ, Option.some.injEq] at ho
      subst ho
      rw [if_pos (by simp [Region.wanted])]
      obtain ⟨b, e1, N1⟩ := i4 (hd { on := 4, ground := .data } (by simp) (by decide))
      simp [go_sem, Array.getD_eq_getD_getElem?, e1]
      rw [hI2]
      exact ⟨hF.put (by decide) _, hB, fun h => (put_get_ne (by decide) _).trans (i0 (by simpa using h)), fun h => by obtain ⟨b, e, N⟩ := (i1 (by simpa using h)); exact ⟨b, (put_get_ne (by decide) _).trans e, N⟩, fun h => (put_get_ne (by decide) _).trans (i2 (by simpa using h)), fun h => (put_get_ne (by decide) _).trans (i3 (by simpa using h)), fun h => by obtain ⟨b, e, N⟩ := (i4 (by simpa using h)); exact ⟨b, (put_get_ne (by decide) _).trans e, N⟩, fun _ => ⟨b, put_get_self (hF.lt (by simp)) _, N1⟩, fun h => by obtain ⟨b, e, N⟩ := (i6 (by simpa using h)); exact ⟨b, (put_get_ne (by decide) _).trans e, N⟩, fun h => (put_get_ne (by decide) _).trans (i7 (by simpa using h)), fun h => by obtain ⟨g, e, y0, y1, y2⟩ := (i8 (by simpa using h)); exact ⟨g, (put_get_ne (by decide) _).trans e, y0, fun h2 => (y1 (by simpa using h2)), fun h2 => (by obtain ⟨b, y3, y4⟩ := y2 (by simpa using h2); exact ⟨b, y3, y4⟩)⟩, fun h => (put_get_ne (by decide) _).trans (i10 (by simpa using h)), fun h => by have := ist (by simpa using h); simp [this]⟩
    · simp only [List.getElem?_cons_zero, List.getElem?_cons_succ, Option.some.injEq] at ho
      subst ho
      rw [if_pos (by simp [Region.wanted])]
      obtain ⟨b, e1, N1⟩ := i5 (hd { on := 5, ground := .data } (by simp) (by decide))
      simp [go_sem, Array.getD_eq_getD_getElem?, e1]
      rw [hI2]
      exact ⟨hF.put (by decide) _, hB, fun h => (put_get_ne (by decide) _).trans (i0 (by simpa using h)), fun h => by obtain ⟨b, e, N⟩ := (i1 (by simpa using h)); exact ⟨b, (put_get_ne (by decide) _).trans e, N⟩, fun h => (put_get_ne (by decide) _).trans (i2 (by simpa using h)), fun h => (put_get_ne (by decide) _).trans (i3 (by simpa using h)), fun h => by obtain ⟨b, e, N⟩ := (i4 (by simpa using h)); exact ⟨b, (put_get_ne (by decide) _).trans e, N⟩, fun h => by obtain ⟨b, e, N⟩ := (i5 (by simpa using h)); exact ⟨b, (put_get_ne (by decide) _).trans e, N⟩, fun _ => ⟨b, put_get_self (hF.lt (by simp)) _, N1⟩, fun h => (put_get_ne (by decide) _).trans (i7 (by simpa using h)), fun h => by obtain ⟨g, e, y0, y1, y2⟩ := (i8 (by simpa using h)); exact ⟨g, (put_get_ne (by decide) _).trans e, y0, fun h2 => (y1 (by simpa using h2)), fun h2 => (by obtain ⟨b, y3, y4⟩ := y2 (by simpa using h2); exact ⟨b, y3, y4⟩)⟩, fun h => (put_get_ne (by decide) _).trans (i10 (by simpa using h)), fun h => by have := ist (by simpa using h); simp [this]⟩
    · simp only [List.getElem?_cons_zero, List.getElem?_cons_succ, Option.some.injEq] at ho
      subst ho
      rw [if_pos (by simp [Region.wanted])]
      obtain ⟨b, e1, N1⟩ := i5 (hd { on := 5, ground := .data } (by simp) (by decide))
      simp [go_sem, Array.getD_eq_getD_getElem?, e1]
      rw [hI2]
      exact ⟨hF.put (by decide) _, hB, fun h => (put_get_ne (by decide) _).trans (i0 (by simpa using h)), fun h => by obtain ⟨b, e, N⟩ := (i1 (by simpa using h)); exact ⟨b, (put_get_ne (by decide) _).trans e, N⟩, fun h => (put_get_ne (by decide) _).trans (i2 (by simpa using h)), fun h => (put_get_ne (by decide) _).trans (i3 (by simpa using h)), fun h => by obtain ⟨b, e, N⟩ := (i4 (by simpa using h)); exact ⟨b, (put_get_ne (by decide) _).trans e, N⟩, fun h => by obtain ⟨b, e, N⟩ := (i5 (by simpa using h)); exact ⟨b, (put_get_ne (by decide) _).trans e, N⟩, fun h => by obtain ⟨b, e, N⟩ := (i6 (by simpa using h)); exact ⟨b, (put_get_ne (by decide) _).trans e, N⟩, fun _ => put_get_self (hF.lt (by simp)) _, fun h => by obtain ⟨g, e, y0, y1, y2⟩ := (i8 (by simpa using h)); exact ⟨g, (put_get_ne (by decide) _).trans e, y0, fun h2 => (y1 (by simpa using h2)), fun h2 => (by obtain ⟨b, y3, y4⟩ := y2 (by simpa using h2); exact ⟨b, y3, y4⟩)⟩, fun h => (put_get_ne (by decide) _).trans (i10 (by simpa using h)), fun h => by have := ist (by simpa using h); simp [this]⟩
    · simp only [List.getElem?_cons_zero, List.getElem?_cons_succ, Option.some.injEq] at ho
      subst ho
      rw [if_pos (by simp [Region.wanted])]
      simp [go_sem]
      rw [hI2]
      exact ⟨hF.put (by decide) _, below_al hB _, fun h => (put_get_ne (by decide) _).trans (i0 (by simpa using h)), fun h => by obtain ⟨b, e, N⟩ := (i1 (by simpa using h)); exact ⟨b, (put_get_ne (by decide) _).trans e, (N.below (below_al (Below.refl _ _) _) (Nat.le_refl _))⟩, fun h => (put_get_ne (by decide) _).trans (i2 (by simpa using h)), fun h => (put_get_ne (by decide) _).trans (i3 (by simpa using h)), fun h => by obtain ⟨b, e, N⟩ := (i4 (by simpa using h)); exact ⟨b, (put_get_ne (by decide) _).trans e, (N.below (below_al (Below.refl _ _) _) (Nat.le_refl _))⟩, fun h => by obtain ⟨b, e, N⟩ := (i5 (by simpa using h)); exact ⟨b, (put_get_ne (by decide) _).trans e, (N.below (below_al (Below.refl _ _) _) (Nat.le_refl _))⟩, fun h => by obtain ⟨b, e, N⟩ := (i6 (by simpa using h)); exact ⟨b, (put_get_ne (by decide) _).trans e, (N.below (below_al (Below.refl _ _) _) (Nat.le_refl _))⟩, fun h => (put_get_ne (by decide) _).trans (i7 (by simpa using h)), fun _ => ⟨w'.heap.size, put_get_self (hF.lt (by simp)) _, z', fun _ => HasT.new w' [.slice none 0 0, .int .i64 0, .int .i64 0, .int .i64 0, .int .i64 0, .int .i64 0, .slice none 0 0, .slice none 0 0] _, fun h => by have := ist (by simpa using h); rw [hLi] at this; cases this⟩, fun h => (put_get_ne (by decide) _).trans (i10 (by simpa using h)), fun _ => by simp⟩
    · simp only [List.getElem?_cons_zero, List.getElem?_cons_succ, Option.some.injEq] at ho
      subst ho
      rw [if_pos (by simp [Region.wanted])]
      obtain ⟨g, e6, hg, y1, _⟩ := i8 (hd { on := 8, ground := .data } (by simp) (by decide))
      have HT := y1 hLi
      have hgn := hg
      obtain ⟨b, e1, N1⟩ := i6 (hd { on := 6, ground := .data } (by simp) (by decide))
      have HH := HT.has
      obtain ⟨cH_0, fH_0⟩ := HH.2 0 _ rfl
      obtain ⟨cH_1, fH_1⟩ := HH.2 1 _ rfl
      obtain ⟨cH_2, fH_2⟩ := HH.2 2 _ rfl
      obtain ⟨cH_3, fH_3⟩ := HH.2 3 _ rfl
      obtain ⟨cH_4, fH_4⟩ := HH.2 4 _ rfl
      obtain ⟨cH_5, fH_5⟩ := HH.2 5 _ rfl
      obtain ⟨cH_6, fH_6⟩ := HH.2 6 _ rfl
      obtain ⟨cH_7, fH_7⟩ := HH.2 7 _ rfl
      have lH := HH.1
      simp [go_sem, Array.getD_eq_getD_getElem?, e1, e6, cH_0, fH_0, cH_1, fH_1, cH_2, fH_2, cH_3, fH_3, cH_4, fH_4, cH_5, fH_5, cH_6, fH_6, cH_7, fH_7]
      rw [hI2]
      exact ⟨hF, (below_cells hB (o := 0) hgn [_, _, _, _, _, _, _, _]), fun h => (i0 (by simpa using h)), fun h => by obtain ⟨b, e, N⟩ := (i1 (by simpa using h)); exact ⟨b, e, (N.otherT HT (by decide) (by decide) [_, _, _, _, _, _, _, _] 0)⟩, fun h => (i2 (by simpa using h)), fun h => (i3 (by simpa using h)), fun h => by obtain ⟨b, e, N⟩ := (i4 (by simpa using h)); exact ⟨b, e, (N.otherT HT (by decide) (by decide) [_, _, _, _, _, _, _, _] 0)⟩, fun h => by obtain ⟨b, e, N⟩ := (i5 (by simpa using h)); exact ⟨b, e, (N.otherT HT (by decide) (by decide) [_, _, _, _, _, _, _, _] 0)⟩, fun h => by obtain ⟨b, e, N⟩ := (i6 (by simpa using h)); exact ⟨b, e, (N.otherT HT (by decide) (by decide) [_, _, _, _, _, _, _, _] 0)⟩, fun h => (i7 (by simpa using h)), fun _ => ⟨g, e6, hg, fun h => by simp at h, fun _ => ⟨b, HasT.store (us := [_, _, _, _, _, _, _, _]) HT rfl, (N1.otherT HT (by decide) (by decide) [_, _, _, _, _, _, _, _] 0)⟩⟩, fun h => (i10 (by simpa using h)), fun _ => by have := (hd { on := 8, ground := .data } (by simp) (by decide)); simp [this]⟩
    · simp only [List.getElem?_cons_zero, List.getElem?_cons_succ, Option.some.injEq] at ho
      subst ho
      rw [if_pos (by simp [Region.wanted])]
      have e1 := i7 (hd { on := 7, ground := .data } (by simp) (by decide))
      simp [go_sem, Array.getD_eq_getD_getElem?, e1]
      rw [hI2]
      exact ⟨hF.put (by decide) _, hB, fun h => (put_get_ne (by decide) _).trans (i0 (by simpa using h)), fun h => by obtain ⟨b, e, N⟩ := (i1 (by simpa using h)); exact ⟨b, (put_get_ne (by decide) _).trans e, N⟩, fun h => (put_get_ne (by decide) _).trans (i2 (by simpa using h)), fun h => (put_get_ne (by decide) _).trans (i3 (by simpa using h)), fun h => by obtain ⟨b, e, N⟩ := (i4 (by simpa using h)); exact ⟨b, (put_get_ne (by decide) _).trans e, N⟩, fun h => by obtain ⟨b, e, N⟩ := (i5 (by simpa using h)); exact ⟨b, (put_get_ne (by decide) _).trans e, N⟩, fun h => by obtain ⟨b, e, N⟩ := (i6 (by simpa using h)); exact ⟨b, (put_get_ne (by decide) _).trans e, N⟩, fun h => (put_get_ne (by decide) _).trans (i7 (by simpa using h)), fun h => by obtain ⟨g, e, y0, y1, y2⟩ := (i8 (by simpa using h)); exact ⟨g, (put_get_ne (by decide) _).trans e, y0, fun h2 => (y1 (by simpa using h2)), fun h2 => (by obtain ⟨b, y3, y4⟩ := y2 (by simpa using h2); exact ⟨b, y3, y4⟩)⟩, fun _ => put_get_self (hF.lt (by simp)) _, fun h => by have := ist (by simpa using h); simp [this]⟩
  case he =>
    intro L a' w2 hL hI'
    rw [hI2] at hI'
    obtain ⟨hF, hb2, i0, i1, i2, i3, i4, i5, i6, i7, i8, i10, ist⟩ := hI'
    obtain ⟨g2, e2_b, zg2, _, hst⟩ := i8 (hL 8 (by decide))
    (try simp only [World.size_alloc] at zg2)
    obtain ⟨b2, HT2, N2⟩ := hst (hL 9 (by decide))
    have e2_10 := i10 (hL 10 (by decide))
    have hout := hF.outG (by simp)
    simp only [List.foldl_cons, List.foldl_nil, e2_b, e2_10] at hout
    rw [hout]
    generalize a'.tmps[22]?.getD undef = x2_22
    generalize a'.tmps[23]?.getD undef = x2_23
    generalize a'.tmps[24]?.getD undef = x2_24
    generalize a'.tmps[25]?.getD undef = x2_25
    generalize a'.tmps[26]?.getD undef = x2_26
    generalize a'.tmps[21]?.getD undef = x2_21
    generalize a'.tmps[27]?.getD undef = x2_27
    generalize a'.tmps[28]?.getD undef = x2_28
    clear hout hI2 hF hL i0 i1 i2 i3 i4 i5 i6 i7 i8 i10 ist
    go_simp
    have r2 := bcell1 hb2
    have l2_0 : w.heap.size < w2.heap.size := blt hb2 (by first | (simp; done) | (simp; omega) | omega)
    have l2_1 : w.heap.size + 1 < w2.heap.size := blt hb2 (by first | (simp; done) | (simp; omega) | omega)
    have z2 : w1.heap.size ≤ w2.heap.size := by have h := hb2.size; (try simp only [World.size_alloc] at h); omega
    have H2 := HT2.has
    have lH2 := H2.1
    obtain ⟨cH2_0, _⟩ := H2.2 0 _ rfl
    obtain ⟨cH2_1, _⟩ := H2.2 1 _ rfl
    obtain ⟨cH2_2, _⟩ := H2.2 2 _ rfl
    obtain ⟨cH2_3, _⟩ := H2.2 3 _ rfl
    obtain ⟨cH2_4, _⟩ := H2.2 4 _ rfl
    obtain ⟨cH2_5, _⟩ := H2.2 5 _ rfl
    obtain ⟨cH2_6, _⟩ := H2.2 6 _ rfl
    obtain ⟨cH2_7, _⟩ := H2.2 7 _ rfl
    have BLw : BlkL (w1.heap.size) (w2.heap.size) [b2.map, b2.noise, b2.limits] := by
      have h := N2.blkL
      (try simp only [World.size_alloc] at h)
      exact h
    have hg2 := N2.neT HT2 (by decide) (by decide)
    go_wp2_with (fail)
    refine (toRoom_c r r_a _ hn_r (RoomSl.below hs_r (by (repeat (first | (with_reducible exact Below.refl _ _) | (with_reducible assumption) | (with_reducible refine below_al ?_ _) | (with_reducible refine Below.drew ?_) | (with_reducible refine below_drewN ?_ _) | (with_reducible refine below_st ?_ ?_ _) | (with_reducible refine below_tr ?_ (by assumption)) | (with_reducible exact Nat.le_refl _) | (focus (simp; done)) | (focus (simp; omega))))))).mono ?_
    rintro e w3 ⟨a3, rfl, N3, hb3⟩
    have r3 := bcell1 hb3
    have l3_0 : w.heap.size < w3.heap.size := blt hb3 (by first | (simp; done) | (simp; omega) | omega)
    have l3_1 : w.heap.size + 1 < w3.heap.size := blt hb3 (by first | (simp; done) | (simp; omega) | omega)
    have l3_2 : g2 < w3.heap.size := blt hb3 (by first | (simp; done) | (simp; omega) | omega)
    have z3 : w2.heap.size ≤ w3.heap.size := by have h := hb3.size; (try simp only [World.size_alloc] at h); omega
    have BLx_r : BlkL (w2.heap.size) (w3.heap.size) [a3.map, a3.noise, a3.limits] := by
      have h := N3.blkL
      (try simp only [World.size_alloc] at h)
      exact h
    go_upto_region 7 with fail
    obtain ⟨I4, hI4⟩ : ∃ I : Act → (Nat → Bool) → Act → World → Prop, I = (fun a0 L a w' => FrameOf a0 a [32, 33, 34, 35, 31, 36, 37, 9, 10] ∧ Below (w3.alloc (.cells #[.slice a3.map.A (List.length r.map) a3.map.c, .int .i64 r.div, .int .i64 r.bx, .int .i64 r.by_, .int .i64 r.low, .int .i64 r.high, .slice a3.noise.A (List.length r.noise) a3.noise.c, .slice a3.limits.A (List.length r.limits) a3.limits.c] 118)).heap.size ((w3.alloc (.cells #[.slice a3.map.A (List.length r.map) a3.map.c, .int .i64 r.div, .int .i64 r.bx, .int .i64 r.by_, .int .i64 r.low, .int .i64 r.high, .slice a3.noise.A (List.length r.noise) a3.noise.c, .slice a3.limits.A (List.length r.limits) a3.limits.c] 118))) w' ∧ (L 0 = true → a.tmps[32]?.getD undef = .agg #[.slice a3.map.A (List.length r.map) a3.map.c, .int .i64 r.div, .int .i64 r.bx, .int .i64 r.by_, .int .i64 r.low, .int .i64 r.high, .slice a3.noise.A (List.length r.noise) a3.noise.c, .slice a3.limits.A (List.length r.limits) a3.limits.c]) ∧ (L 1 = true → a.tmps[33]?.getD undef = .agg #[.int .i64 m.low, .int .i64 m.high]) ∧ (L 2 = true → a.tmps[34]?.getD undef = modeV m) ∧ (L 3 = true → ∃ b : RoomA, a.tmps[35]?.getD undef = .tuple #[roomV y b, .bool ok] ∧ RoomNew w' (w3.alloc (.cells #[.slice a3.map.A (List.length r.map) a3.map.c, .int .i64 r.div, .int .i64 r.bx, .int .i64 r.by_, .int .i64 r.low, .int .i64 r.high, .slice a3.noise.A (List.length r.noise) a3.noise.c, .slice a3.limits.A (List.length r.limits) a3.limits.c] 118)).heap.size y b) ∧ (L 4 = true → ∃ b : RoomA, a.tmps[31]?.getD undef = .tuple #[roomV y b, .bool ok] ∧ RoomNew w' (w3.alloc (.cells #[.slice a3.map.A (List.length r.map) a3.map.c, .int .i64 r.div, .int .i64 r.bx, .int .i64 r.by_, .int .i64 r.low, .int .i64 r.high, .slice a3.noise.A (List.length r.noise) a3.noise.c, .slice a3.limits.A (List.length r.limits) a3.limits.c] 118)).heap.size y b) ∧ (L 5 = true → ∃ b : RoomA, a.tmps[36]?.getD undef = roomV y b ∧ RoomNew w' (w3.alloc (.cells #[.slice a3.map.A (List.length r.map) a3.map.c, .int .i64 r.div, .int .i64 r.bx, .int .i64 r.by_, .int .i64 r.low, .int .i64 r.high, .slice a3.noise.A (List.length r.noise) a3.noise.c, .slice a3.limits.A (List.length r.limits) a3.limits.c] 118)).heap.size y b) ∧ (L 6 = true → a.tmps[37]?.getD undef = .bool ok) ∧ (L 7 = true → ∃ g, a.tmps[9]?.getD undef = .pointer (some ⟨g, 0, none⟩) ∧ (w3.alloc (.cells #[.slice a3.map.A (List.length r.map) a3.map.c, .int .i64 r.div, .int .i64 r.bx, .int .i64 r.by_, .int .i64 r.low, .int .i64 r.high, .slice a3.noise.A (List.length r.noise) a3.noise.c, .slice a3.limits.A (List.length r.limits) a3.limits.c] 118)).heap.size ≤ g ∧ (L 8 = false → HasT w' g 118 [.slice none 0 0, .int .i64 0, .int .i64 0, .int .i64 0, .int .i64 0, .int .i64 0, .slice none 0 0, .slice none 0 0]) ∧ (L 8 = true → (∃ b : RoomA, HasT w' g 118 [.slice b.map.A (List.length y.map) b.map.c, .int .i64 y.div, .int .i64 y.bx, .int .i64 y.by_, .int .i64 y.low, .int .i64 y.high, .slice b.noise.A (List.length y.noise) b.noise.c, .slice b.limits.A (List.length y.limits) b.limits.c] ∧ RoomNew w' (w3.alloc (.cells #[.slice a3.map.A (List.length r.map) a3.map.c, .int .i64 r.div, .int .i64 r.bx, .int .i64 r.by_, .int .i64 r.low, .int .i64 r.high, .slice a3.noise.A (List.length r.noise) a3.noise.c, .slice a3.limits.A (List.length r.limits) a3.limits.c] 118)).heap.size y b))) ∧ (L 9 = true → a.tmps[10]?.getD undef = .bool ok) ∧ (L 8 = true → L 7 = true)) := ⟨_, rfl⟩
    have P4 : Below w.heap.size w ((w3.alloc (.cells #[.slice a3.map.A (List.length r.map) a3.map.c, .int .i64 r.div, .int .i64 r.bx, .int .i64 r.by_, .int .i64 r.low, .int .i64 r.high, .slice a3.noise.A (List.length r.noise) a3.noise.c, .slice a3.limits.A (List.length r.limits) a3.limits.c] 118))) := by (repeat (first | (with_reducible exact Below.refl _ _) | (with_reducible assumption) | (with_reducible refine below_al ?_ _) | (with_reducible refine Below.drew ?_) | (with_reducible refine below_drewN ?_ _) | (with_reducible refine below_st ?_ ?_ _) | (with_reducible refine below_tr ?_ (by assumption)) | (with_reducible exact Nat.le_refl _) | (focus (simp; done)) | (focus (simp; omega))))
    refine wp_region_I0 (by kernel_rfl) (by kernel_rfl) I4 ?h0 ?hs ?he
    case h0 =>
      rw [hI4]
      refine ⟨FrameOf.refl _ _, (Below.refl _ _).drew, ?_⟩
      simp
    case hs =>
      intro L a w' i o ho hLi hd hI'
      rw [hI4] at hI'
      obtain ⟨hF, hB, i0, i1, i2, i3, i4, i5, i6, i7, i9, ist⟩ := hI'
      have hi : i < 10 := by
        rcases Nat.lt_or_ge i 10 with h | h
        · exact h
        · rw [List.getElem?_eq_none (by simpa using h)] at ho; cases ho
      have r' := bcell1 hB
      have z' := hB.size
      have PB := below_tr P4 hB
      obtain rfl | rfl | rfl | rfl | rfl | rfl | rfl | rfl | rfl | rfl : i = 0 ∨ i = 1 ∨ i = 2 ∨ i = 3 ∨ i = 4 ∨ i = 5 ∨ i = 6 ∨ i = 7 ∨ i = 8 ∨ i = 9 := by omega
      · simp only [List.getElem?_cons_zero, Option.some.injEq] at ho
        subst ho
        rw [if_pos (by simp [Region.wanted])]
        have e1 : a.tmps[8]?.getD undef = .pointer (some ⟨w3.heap.size, 0, none⟩) := hF.get (by decide)
        simp [go_sem, Array.getD_eq_getD_getElem?, e1, r']
        rw [hI4]
        exact ⟨hF.put (by decide) _, hB, fun _ => put_get_self (hF.lt (by simp)) _, fun h => (put_get_ne (by decide) _).trans (i1 (by simpa using h)), fun h => (put_get_ne (by decide) _).trans (i2 (by simpa using h)), fun h => by obtain ⟨b, e, N⟩ := (i3 (by simpa using h)); exact ⟨b, (put_get_ne (by decide) _).trans e, N⟩, fun h => by obtain ⟨b, e, N⟩ := (i4 (by simpa using h)); exact ⟨b, (put_get_ne (by decide) _).trans e, N⟩, fun h => by obtain ⟨b, e, N⟩ := (i5 (by simpa using h)); exact ⟨b, (put_get_ne (by decide) _).trans e, N⟩, fun h => (put_get_ne (by decide) _).trans (i6 (by simpa using h)), fun h => by obtain ⟨g, e, y0, y1, y2⟩ := (i7 (by simpa using h)); exact ⟨g, (put_get_ne (by decide) _).trans e, y0, fun h2 => (y1 (by simpa using h2)), fun h2 => (by obtain ⟨b, y3, y4⟩ := y2 (by simpa using h2); exact ⟨b, y3, y4⟩)⟩, fun h => (put_get_ne (by decide) _).trans (i9 (by simpa using h)), fun h => by have := ist (by simpa using h); simp [this]⟩
      · simp only [List.getElem?_cons_zero, List.getElem?_cons_succ, Option.some.injEq] at ho
        subst ho
        rw [if_pos (by simp [Region.wanted])]
        have e1 : a.tmps[3]?.getD undef = .pointer (some ⟨w.heap.size + 1, 0, none⟩) := hF.get (by decide)
        simp [go_sem, Array.getD_eq_getD_getElem?, e1, r', r1, r2, r3, l1_1, l2_1, l3_0, l3_1]
        rw [hI4]
        exact ⟨hF.put (by decide) _, hB, fun h => (put_get_ne (by decide) _).trans (i0 (by simpa using h)), fun _ => put_get_self (hF.lt (by simp)) _, fun h => (put_get_ne (by decide) _).trans (i2 (by simpa using h)), fun h => by obtain ⟨b, e, N⟩ := (i3 (by simpa using h)); exact ⟨b, (put_get_ne (by decide) _).trans e, N⟩, fun h => by obtain ⟨b, e, N⟩ := (i4 (by simpa using h)); exact ⟨b, (put_get_ne (by decide) _).trans e, N⟩, fun h => by obtain ⟨b, e, N⟩ := (i5 (by simpa using h)); exact ⟨b, (put_get_ne (by decide) _).trans e, N⟩, fun h => (put_get_ne (by decide) _).trans (i6 (by simpa using h)), fun h => by obtain ⟨g, e, y0, y1, y2⟩ := (i7 (by simpa using h)); exact ⟨g, (put_get_ne (by decide) _).trans e, y0, fun h2 => (y1 (by simpa using h2)), fun h2 => (by obtain ⟨b, y3, y4⟩ := y2 (by simpa using h2); exact ⟨b, y3, y4⟩)⟩, fun h => (put_get_ne (by decide) _).trans (i9 (by simpa using h)), fun h => by have := ist (by simpa using h); simp [this]⟩
      · simp only [List.getElem?_cons_zero, List.getElem?_cons_succ, Option.some.injEq] at ho
        subst ho
        rw [if_pos (by simp [Region.wanted])]
        have e1 := i1 (hd { on := 1, ground := .data } (by simp) (by decide))
        simp [go_sem, Array.getD_eq_getD_getElem?, e1]
        refine (toMode_c m _).mono ?_
        rintro e wx ⟨rfl, hbx⟩
        rw [hI4]
        exact ⟨hF.put (by decide) _, below_tr hB hbx, fun h => (put_get_ne (by decide) _).trans (i0 (by simpa using h)), fun h => (put_get_ne (by decide) _).trans (i1 (by simpa using h)), fun _ => put_get_self (hF.lt (by simp)) _, fun h => by obtain ⟨b, e, N⟩ := (i3 (by simpa using h)); exact ⟨b, (put_get_ne (by decide) _).trans e, (N.below hbx (Nat.le_refl _))⟩, fun h => by obtain ⟨b, e, N⟩ := (i4 (by simpa using h)); exact ⟨b, (put_get_ne (by decide) _).trans e, (N.below hbx (Nat.le_refl _))⟩, fun h => by obtain ⟨b, e, N⟩ := (i5 (by simpa using h)); exact ⟨b, (put_get_ne (by decide) _).trans e, (N.below hbx (Nat.le_refl _))⟩, fun h => (put_get_ne (by decide) _).trans (i6 (by simpa using h)), fun h => by obtain ⟨g, e, y0, y1, y2⟩ := (i7 (by simpa using h)); exact ⟨g, (put_get_ne (by decide) _).trans e, y0, fun h2 => ((y1 (by simpa using h2)).below hbx), fun h2 => (by obtain ⟨b, y3, y4⟩ := y2 (by simpa using h2); exact ⟨b, y3.below hbx, y4.below hbx (Nat.le_refl _)⟩)⟩, fun h => (put_get_ne (by decide) _).trans (i9 (by simpa using h)), fun h => by have := ist (by simpa using h); simp [this]⟩
      · simp only [List.getElem?_cons_zero, List.getElem?_cons_succ, Option.some.injEq] at ho
        subst ho
        rw [if_pos (by simp [Region.wanted])]
        have e0 := i0 (hd { on := 0, ground := .data } (by simp) (by decide))
        have M0 := RoomSl.below N3.sl (below_tr (show Below w3.heap.size w3 ((w3.alloc (.cells #[.slice a3.map.A (List.length r.map) a3.map.c, .int .i64 r.div, .int .i64 r.bx, .int .i64 r.by_, .int .i64 r.low, .int .i64 r.high, .slice a3.noise.A (List.length r.noise) a3.noise.c, .slice a3.limits.A (List.length r.limits) a3.limits.c] 118))) by (repeat (first | (with_reducible exact Below.refl _ _) | (with_reducible assumption) | (with_reducible refine below_al ?_ _) | (with_reducible refine Below.drew ?_) | (with_reducible refine below_drewN ?_ _) | (with_reducible refine below_st ?_ ?_ _) | (with_reducible refine below_tr ?_ (by assumption)) | (with_reducible exact Nat.le_refl _) | (focus (simp; done)) | (focus (simp; omega))))) hB)
        have e1 := i2 (hd { on := 2, ground := .data } (by simp) (by decide))
        simp [go_sem, Array.getD_eq_getD_getElem?, e0, e1]
        refine (k2 _ a3 M0 N3.nil).mono ?_
        rintro e wx ⟨bx, rfl, N1, hbx⟩
        rw [hI4]
        exact ⟨hF.put (by decide) _, below_tr hB hbx, fun h => (put_get_ne (by decide) _).trans (i0 (by simpa using h)), fun h => (put_get_ne (by decide) _).trans (i1 (by simpa using h)), fun h => (put_get_ne (by decide) _).trans (i2 (by simpa using h)), fun _ => ⟨bx, put_get_self (hF.lt (by simp)) _, N1.mono z'⟩, fun h => by obtain ⟨b, e, N⟩ := (i4 (by simpa using h)); exact ⟨b, (put_get_ne (by decide) _).trans e, (N.below hbx (Nat.le_refl _))⟩, fun h => by obtain ⟨b, e, N⟩ := (i5 (by simpa using h)); exact ⟨b, (put_get_ne (by decide) _).trans e, (N.below hbx (Nat.le_refl _))⟩, fun h => (put_get_ne (by decide) _).trans (i6 (by simpa using h)), fun h => by obtain ⟨g, e, y0, y1, y2⟩ := (i7 (by simpa using h)); exact ⟨g, (put_get_ne (by decide) _).trans e, y0, fun h2 => ((y1 (by simpa using h2)).below hbx), fun h2 => (by obtain ⟨b, y3, y4⟩ := y2 (by simpa using h2); exact ⟨b, y3.below hbx, y4.below hbx (Nat.le_refl _)⟩)⟩, fun h => (put_get_ne (by decide) _).trans (i9 (by simpa using h)), fun h => by have := ist (by simpa using h); simp [this]⟩
      · simp only [List.getElem?_cons_zero, List.getElem?_cons_succ, Option.some.injEq] at ho
        subst ho
        rw [if_pos (by simp [Region.wanted])]
        obtain ⟨b, e1, N1⟩ := i3 (hd { on := 3, ground := .data } (by simp) (by decide))
        simp [go_sem, Array.getD_eq_getD_getElem?, e1]
        rw [hI4]
        exact ⟨hF.put (by decide) _, hB, fun h => (put_get_ne (by decide) _).trans (i0 (by simpa using h)), fun h => (put_get_ne (by decide) _).trans (i1 (by simpa using h)), fun h => (put_get_ne (by decide) _).trans (i2 (by simpa using h)), fun h => by obtain ⟨b, e, N⟩ := (i3 (by simpa using h)); exact ⟨b, (put_get_ne (by decide) _).trans e, N⟩, fun _ => ⟨b, put_get_self (hF.lt (by simp)) _, N1⟩, fun h => by obtain ⟨b, e, N⟩ := (i5 (by simpa using h)); exact ⟨b, (put_get_ne (by decide) _).trans e, N⟩, fun h => (put_get_ne (by decide) _).trans (i6 (by simpa using h)), fun h => by obtain ⟨g, e, y0, y1, y2⟩ := (i7 (by simpa using h)); exact ⟨g, (put_get_ne (by decide) _).trans e, y0, fun h2 => (y1 (by simpa using h2)), fun h2 => (by obtain ⟨b, y3, y4⟩ := y2 (by simpa using h2); exact ⟨b, y3, y4⟩)⟩, fun h => (put_get_ne (by decide) _).trans (i9 (by simpa using h)), fun h => by have := ist (by simpa using h); simp [this]⟩
      · simp only [List.getElem?_cons_zero, List.getElem?_cons_succ, Option.some.injEq] at ho
        subst ho
        rw [if_pos (by simp [Region.wanted])]
        obtain ⟨b, e1, N1⟩ := i4 (hd { on := 4, ground := .data } (by simp) (by decide))
        simp [go_sem, Array.getD_eq_getD_getElem?, e1]
        rw [hI4]
        exact ⟨hF.put (by decide) _, hB, fun h => (put_get_ne (by decide) _).trans (i0 (by simpa using h)), fun h => (put_get_ne (by decide) _).trans (i1 (by simpa using h)), fun h => (put_get_ne (by decide) _).trans (i2 (by simpa using h)), fun h => by obtain ⟨b, e, N⟩ := (i3 (by simpa using h)); exact ⟨b, (put_get_ne (by decide) _).trans e, N⟩, fun h => by obtain ⟨b, e, N⟩ := (i4 (by simpa using h)); exact ⟨b, (put_get_ne (by decide) _).trans e, N⟩, fun _ => ⟨b, put_get_self (hF.lt (by simp)) _, N1⟩, fun h => (put_get_ne (by decide) _).trans (i6 (by simpa using h)), fun h => by obtain ⟨g, e, y0, y1, y2⟩ := (i7 (by simpa using h)); exact ⟨g, (put_get_ne (by decide) _).trans e, y0, fun h2 => (y1 (by simpa using h2)), fun h2 => (by obtain ⟨b, y3, y4⟩ := y2 (by simpa using h2); exact ⟨b, y3, y4⟩)⟩, fun h => (put_get_ne (by decide) _).trans (i9 (by simpa using h)), fun h => by have := ist (by simpa using h); simp [this]⟩
      · simp only [List.getElem?_cons_zero, List.getElem?_cons_succ, Option.some.injEq] at ho
        subst ho
        rw [if_pos (by simp [Region.wanted])]
        obtain ⟨b, e1, N1⟩ := i4 (hd { on := 4, ground := .data } (by simp) (by decide))
        simp [go_sem, Array.getD_eq_getD_getElem?, e1]
        rw [hI4]
        exact ⟨hF.put (by decide) _, hB, fun h => (put_get_ne (by decide) _).trans (i0 (by simpa using h)), fun h => (put_get_ne (by decide) _).trans (i1 (by simpa using h)), fun h => (put_get_ne (by decide) _).trans (i2 (by simpa using h)), fun h => by obtain ⟨b, e, N⟩ := (i3 (by simpa using h)); exact ⟨b, (put_get_ne (by decide) _).trans e, N⟩, fun h => by obtain ⟨b, e, N⟩ := (i4 (by simpa using h)); exact ⟨b, (put_get_ne (by decide) _).trans e, N⟩, fun h => by obtain ⟨b, e, N⟩ := (i5 (by simpa using h)); exact ⟨b, (put_get_ne (by decide) _).trans e, N⟩, fun _ => put_get_self (hF.lt (by simp)) _, fun h => by obtain ⟨g, e, y0, y1, y2⟩ := (i7 (by simpa using h)); exact ⟨g, (put_get_ne (by decide) _).trans e, y0, fun h2 => (y1 (by simpa using h2)), fun h2 => (by obtain ⟨b, y3, y4⟩ := y2 (by simpa using h2); exact ⟨b, y3, y4⟩)⟩, fun h => (put_get_ne (by decide) _).trans (i9 (by simpa using h)), fun h => by have := ist (by simpa using h); simp [this]⟩
      · simp only [List.getElem?_cons_zero, List.getElem?_cons_succ, Option.some.injEq] at ho
        subst ho
        rw [if_pos (by simp [Region.wanted])]
        simp [go_sem]
        rw [hI4]
        exact ⟨hF.put (by decide) _, below_al hB _, fun h => (put_get_ne (by decide) _).trans (i0 (by simpa using h)), fun h => (put_get_ne (by decide) _).trans (i1 (by simpa using h)), fun h => (put_get_ne (by decide) _).trans (i2 (by simpa using h)), fun h => by obtain ⟨b, e, N⟩ := (i3 (by simpa using h)); exact ⟨b, (put_get_ne (by decide) _).trans e, (N.below (below_al (Below.refl _ _) _) (Nat.le_refl _))⟩, fun h => by obtain ⟨b, e, N⟩ := (i4 (by simpa using h)); exact ⟨b, (put_get_ne (by decide) _).trans e, (N.below (below_al (Below.refl _ _) _) (Nat.le_refl _))⟩, fun h => by obtain ⟨b, e, N⟩ := (i5 (by simpa using h)); exact ⟨b, (put_get_ne (by decide) _).trans e, (N.below (below_al (Below.refl _ _) _) (Nat.le_refl _))⟩, fun h => (put_get_ne (by decide) _).trans (i6 (by simpa using h)), fun _ => ⟨w'.heap.size, put_get_self (hF.lt (by simp)) _, z', fun _ => HasT.new w' [.slice none 0 0, .int .i64 0, .int .i64 0, .int .i64 0, .int .i64 0, .int .i64 0, .slice none 0 0, .slice none 0 0] _, fun h => by have := ist (by simpa using h); rw [hLi] at this; cases this⟩, fun h => (put_get_ne (by decide) _).trans (i9 (by simpa using h)), fun _ => by simp⟩
      · simp only [List.getElem?_cons_zero, List.getElem?_cons_succ, Option.some.injEq] at ho
        subst ho
        rw [if_pos (by simp [Region.wanted])]
        obtain ⟨g, e6, hg, y1, _⟩ := i7 (hd { on := 7, ground := .data } (by simp) (by decide))
        have HT := y1 hLi
        have hgn := hg
        obtain ⟨b, e1, N1⟩ := i5 (hd { on := 5, ground := .data } (by simp) (by decide))
        have HH := HT.has
        obtain ⟨cH_0, fH_0⟩ := HH.2 0 _ rfl
        obtain ⟨cH_1, fH_1⟩ := HH.2 1 _ rfl
        obtain ⟨cH_2, fH_2⟩ := HH.2 2 _ rfl
        obtain ⟨cH_3, fH_3⟩ := HH.2 3 _ rfl
        obtain ⟨cH_4, fH_4⟩ := HH.2 4 _ rfl
        obtain ⟨cH_5, fH_5⟩ := HH.2 5 _ rfl
        obtain ⟨cH_6, fH_6⟩ := HH.2 6 _ rfl
        obtain ⟨cH_7, fH_7⟩ := HH.2 7 _ rfl
        have lH := HH.1
        simp [go_sem, Array.getD_eq_getD_getElem?, e1, e6, cH_0, fH_0, cH_1, fH_1, cH_2, fH_2, cH_3, fH_3, cH_4, fH_4, cH_5, fH_5, cH_6, fH_6, cH_7, fH_7]
        rw [hI4]
        exact ⟨hF, (below_cells hB (o := 0) hgn [_, _, _, _, _, _, _, _]), fun h => (i0 (by simpa using h)), fun h => (i1 (by simpa using h)), fun h => (i2 (by simpa using h)), fun h => by obtain ⟨b, e, N⟩ := (i3 (by simpa using h)); exact ⟨b, e, (N.otherT HT (by decide) (by decide) [_, _, _, _, _, _, _, _] 0)⟩, fun h => by obtain ⟨b, e, N⟩ := (i4 (by simpa using h)); exact ⟨b, e, (N.otherT HT (by decide) (by decide) [_, _, _, _, _, _, _, _] 0)⟩, fun h => by obtain ⟨b, e, N⟩ := (i5 (by simpa using h)); exact ⟨b, e, (N.otherT HT (by decide) (by decide) [_, _, _, _, _, _, _, _] 0)⟩, fun h => (i6 (by simpa using h)), fun _ => ⟨g, e6, hg, fun h => by simp at h, fun _ => ⟨b, HasT.store (us := [_, _, _, _, _, _, _, _]) HT rfl, (N1.otherT HT (by decide) (by decide) [_, _, _, _, _, _, _, _] 0)⟩⟩, fun h => (i9 (by simpa using h)), fun _ => by have := (hd { on := 7, ground := .data } (by simp) (by decide)); simp [this]⟩
      · simp only [List.getElem?_cons_zero, List.getElem?_cons_succ, Option.some.injEq] at ho
        subst ho
        rw [if_pos (by simp [Region.wanted])]
        have e1 := i6 (hd { on := 6, ground := .data } (by simp) (by decide))
        simp [go_sem, Array.getD_eq_getD_getElem?, e1]
        rw [hI4]
        exact ⟨hF.put (by decide) _, hB, fun h => (put_get_ne (by decide) _).trans (i0 (by simpa using h)), fun h => (put_get_ne (by decide) _).trans (i1 (by simpa using h)), fun h => (put_get_ne (by decide) _).trans (i2 (by simpa using h)), fun h => by obtain ⟨b, e, N⟩ := (i3 (by simpa using h)); exact ⟨b, (put_get_ne (by decide) _).trans e, N⟩, fun h => by obtain ⟨b, e, N⟩ := (i4 (by simpa using h)); exact ⟨b, (put_get_ne (by decide) _).trans e, N⟩, fun h => by obtain ⟨b, e, N⟩ := (i5 (by simpa using h)); exact ⟨b, (put_get_ne (by decide) _).trans e, N⟩, fun h => (put_get_ne (by decide) _).trans (i6 (by simpa using h)), fun h => by obtain ⟨g, e, y0, y1, y2⟩ := (i7 (by simpa using h)); exact ⟨g, (put_get_ne (by decide) _).trans e, y0, fun h2 => (y1 (by simpa using h2)), fun h2 => (by obtain ⟨b, y3, y4⟩ := y2 (by simpa using h2); exact ⟨b, y3, y4⟩)⟩, fun _ => put_get_self (hF.lt (by simp)) _, fun h => by have := ist (by simpa using h); simp [this]⟩
    case he =>
      intro L a' w4 hL hI'
      rw [hI4] at hI'
      obtain ⟨hF, hb4, i0, i1, i2, i3, i4, i5, i6, i7, i9, ist⟩ := hI'
      obtain ⟨g4, e4_b, zg4, _, hst⟩ := i7 (hL 7 (by decide))
      (try simp only [World.size_alloc] at zg4)
      obtain ⟨b4, HT4, N4⟩ := hst (hL 8 (by decide))
      have e4_9 := i9 (hL 9 (by decide))
      have hout := hF.outG (by simp)
      simp only [List.foldl_cons, List.foldl_nil, e4_b, e4_9] at hout
      rw [hout]
      generalize a'.tmps[32]?.getD undef = x4_32
      generalize a'.tmps[33]?.getD undef = x4_33
      generalize a'.tmps[34]?.getD undef = x4_34
      generalize a'.tmps[35]?.getD undef = x4_35
      generalize a'.tmps[31]?.getD undef = x4_31
      generalize a'.tmps[36]?.getD undef = x4_36
      generalize a'.tmps[37]?.getD undef = x4_37
      clear hout hI4 hF hL i0 i1 i2 i3 i4 i5 i6 i7 i9 ist
      go_simp
      have r4 := bcell1 hb4
      have l4_0 : w.heap.size < w4.heap.size := blt hb4 (by first | (simp; done) | (simp; omega) | omega)
      have l4_1 : w.heap.size + 1 < w4.heap.size := blt hb4 (by first | (simp; done) | (simp; omega) | omega)
      have l4_2 : g2 < w4.heap.size := blt hb4 (by first | (simp; done) | (simp; omega) | omega)
      have l4_3 : w3.heap.size < w4.heap.size := blt hb4 (by first | (simp; done) | (simp; omega) | omega)
      have z4 : w3.heap.size + 1 ≤ w4.heap.size := by have h := hb4.size; (try simp only [World.size_alloc] at h); omega
      have H4 := HT4.has
      have lH4 := H4.1
      obtain ⟨cH4_0, _⟩ := H4.2 0 _ rfl
      obtain ⟨cH4_1, _⟩ := H4.2 1 _ rfl
      obtain ⟨cH4_2, _⟩ := H4.2 2 _ rfl
      obtain ⟨cH4_3, _⟩ := H4.2 3 _ rfl
      obtain ⟨cH4_4, _⟩ := H4.2 4 _ rfl
      obtain ⟨cH4_5, _⟩ := H4.2 5 _ rfl
      obtain ⟨cH4_6, _⟩ := H4.2 6 _ rfl
      obtain ⟨cH4_7, _⟩ := H4.2 7 _ rfl
      have BLg : BlkL (w3.heap.size + 1) (w4.heap.size) [b4.map, b4.noise, b4.limits] := by
        have h := N4.blkL
        (try simp only [World.size_alloc] at h)
        exact h
      have hg4 := N4.neT HT4 (by decide) (by decide)
      go_wp2_with (fail)
      refine (eqRoom_t y b4 b2 _ (by omega) (RoomSl.below N4.sl (by (repeat (first | (with_reducible exact Below.refl _ _) | (with_reducible assumption) | (with_reducible refine below_al ?_ _) | (with_reducible refine Below.drew ?_) | (with_reducible refine below_drewN ?_ _) | (with_reducible refine below_st ?_ ?_ _) | (with_reducible refine below_tr ?_ (by assumption)) | (with_reducible exact Nat.le_refl _) | (focus (simp; done)) | (focus (simp; omega)))))) (RoomSl.below N2.sl (by (repeat (first | (with_reducible exact Below.refl _ _) | (with_reducible assumption) | (with_reducible refine below_al ?_ _) | (with_reducible refine Below.drew ?_) | (with_reducible refine below_drewN ?_ _) | (with_reducible refine below_st ?_ ?_ _) | (with_reducible refine below_tr ?_ (by assumption)) | (with_reducible exact Nat.le_refl _) | (focus (simp; done)) | (focus (simp; omega))))))).mono ?_
      rintro e w5 ⟨rfl, hb5⟩
      have r5 := bcell1 hb5
      have l5_0 : w.heap.size < w5.heap.size := blt hb5 (by first | (simp; done) | (simp; omega) | omega)
      have l5_1 : w.heap.size + 1 < w5.heap.size := blt hb5 (by first | (simp; done) | (simp; omega) | omega)
      have l5_2 : g2 < w5.heap.size := blt hb5 (by first | (simp; done) | (simp; omega) | omega)
      have l5_3 : w3.heap.size < w5.heap.size := blt hb5 (by first | (simp; done) | (simp; omega) | omega)
      have l5_4 : g4 < w5.heap.size := blt hb5 (by first | (simp; done) | (simp; omega) | omega)
      have z5 : w4.heap.size ≤ w5.heap.size := by have h := hb5.size; (try simp only [World.size_alloc] at h); omega
      go_upto_region 10 with fail
      go_region_held3 (fun w' => (∀ b o, b < w5.heap.size → w'.cell? ⟨b, o, none⟩ = w5.cell? ⟨b, o, none⟩) ∧ w5.heap.size ≤ w'.heap.size) (first | exact ⟨fun _ _ _ => rfl, by simp⟩ | exact kq_step2 (by assumption) (by assumption))
        (first
          | (go_at_call 65; go_must (refine (toRoom_c r r_a _ hn_r (RoomSl.below hs_r (by (repeat (first | (with_reducible exact Below.refl _ _) | (with_reducible assumption) | (with_reducible refine below_al ?_ _) | (with_reducible refine Below.drew ?_) | (with_reducible refine below_drewN ?_ _) | (with_reducible refine below_st ?_ ?_ _) | (with_reducible refine below_tr ?_ (by assumption)) | (with_reducible exact Nat.le_refl _) | (focus (simp; done)) | (focus (simp; omega))))))).mono ?_; rintro e w6 ⟨a6, rfl, N6, hb6⟩))
          | (go_at_call 68; go_must (refine (eqRoom_t r a3 a6 _ hn_r (RoomSl.below N3.sl (by (repeat (first | (with_reducible exact Below.refl _ _) | (with_reducible assumption) | (with_reducible refine below_al ?_ _) | (with_reducible refine Below.drew ?_) | (with_reducible refine below_drewN ?_ _) | (with_reducible refine below_st ?_ ?_ _) | (with_reducible refine below_tr ?_ (by assumption)) | (with_reducible exact Nat.le_refl _) | (focus (simp; done)) | (focus (simp; omega)))))) (RoomSl.below N6.sl (by (repeat (first | (with_reducible exact Below.refl _ _) | (with_reducible assumption) | (with_reducible refine below_al ?_ _) | (with_reducible refine Below.drew ?_) | (with_reducible refine below_drewN ?_ _) | (with_reducible refine below_st ?_ ?_ _) | (with_reducible refine below_tr ?_ (by assumption)) | (with_reducible exact Nat.le_refl _) | (focus (simp; done)) | (focus (simp; omega))))))).mono ?_; rintro e w7 ⟨rfl, hb7⟩)))
      have B7 : Below w5.heap.size w5 w7 := by (repeat (first | (with_reducible exact Below.refl _ _) | (with_reducible assumption) | (with_reducible refine below_al ?_ _) | (with_reducible refine Below.drew ?_) | (with_reducible refine below_drewN ?_ _) | (with_reducible refine below_st ?_ ?_ _) | (with_reducible refine below_tr ?_ (by assumption)) | (with_reducible exact Nat.le_refl _) | (focus (simp; done)) | (focus (simp; omega))))
      have r7 := bcell1 B7
      have l7_0 : w.heap.size < w7.heap.size := blt B7 (by first | (simp; done) | (simp; omega) | omega)
      have l7_1 : w.heap.size + 1 < w7.heap.size := blt B7 (by first | (simp; done) | (simp; omega) | omega)
      have l7_2 : g2 < w7.heap.size := blt B7 (by first | (simp; done) | (simp; omega) | omega)
      have l7_3 : w3.heap.size < w7.heap.size := blt B7 (by first | (simp; done) | (simp; omega) | omega)
      have l7_4 : g4 < w7.heap.size := blt B7 (by first | (simp; done) | (simp; omega) | omega)
      have z7 : w5.heap.size ≤ w7.heap.size := by have h := B7.size; (try simp only [World.size_alloc] at h); omega
      have X8 := N3.below (show Below w3.heap.size w3 w7 by (repeat (first | (with_reducible exact Below.refl _ _) | (with_reducible assumption) | (with_reducible refine below_al ?_ _) | (with_reducible refine Below.drew ?_) | (with_reducible refine below_drewN ?_ _) | (with_reducible refine below_st ?_ ?_ _) | (with_reducible refine below_tr ?_ (by assumption)) | (with_reducible exact Nat.le_refl _) | (focus (simp; done)) | (focus (simp; omega))))) (Nat.le_refl _)
      have Ew_8 := N2.below (show Below w2.heap.size w2 w7 by (repeat (first | (with_reducible exact Below.refl _ _) | (with_reducible assumption) | (with_reducible refine below_al ?_ _) | (with_reducible refine Below.drew ?_) | (with_reducible refine below_drewN ?_ _) | (with_reducible refine below_st ?_ ?_ _) | (with_reducible refine below_tr ?_ (by assumption)) | (with_reducible exact Nat.le_refl _) | (focus (simp; done)) | (focus (simp; omega))))) (Nat.le_refl _)
      have Eg_8 := N4.below (show Below w4.heap.size w4 w7 by (repeat (first | (with_reducible exact Below.refl _ _) | (with_reducible assumption) | (with_reducible refine below_al ?_ _) | (with_reducible refine Below.drew ?_) | (with_reducible refine below_drewN ?_ _) | (with_reducible refine below_st ?_ ?_ _) | (with_reducible refine below_tr ?_ (by assumption)) | (with_reducible exact Nat.le_refl _) | (focus (simp; done)) | (focus (simp; omega))))) (Nat.le_refl _)
      have P8 : Below w.heap.size w w7 := by (repeat (first | (with_reducible exact Below.refl _ _) | (with_reducible assumption) | (with_reducible refine below_al ?_ _) | (with_reducible refine Below.drew ?_) | (with_reducible refine below_drewN ?_ _) | (with_reducible refine below_st ?_ ?_ _) | (with_reducible refine below_tr ?_ (by assumption)) | (with_reducible exact Nat.le_refl _) | (focus (simp; done)) | (focus (simp; omega))))
      go_wp2_with (fail)
      refine (markRoom_g r a3 (1) _ _ (by omega) (by omega) (by omega) X8).mono ?_
      rintro e w8 ⟨rfl, M8, o8⟩
      have z8 : w7.heap.size ≤ w8.heap.size := by have h := o8.size; (try simp only [World.size_alloc] at h); omega
      have B8 : Below w.heap.size w w8 := P8.trans (o8.below (by first | (simp; done) | (simp; omega) | omega) (BLx_r.lo (by first | omega | (simp; omega))))
      have q8_0 := o8.cell (show w.heap.size < w7.heap.size from (by first | (simp; done) | (simp; omega) | omega)) (BLx_r.ne (by omega))
      have l8_0 : w.heap.size < w8.heap.size := Nat.lt_of_lt_of_le (show w.heap.size < w7.heap.size from (by first | (simp; done) | (simp; omega) | omega)) o8.size
      have q8_1 := o8.cell (show w.heap.size + 1 < w7.heap.size from (by first | (simp; done) | (simp; omega) | omega)) (BLx_r.ne (by omega))
      have l8_1 : w.heap.size + 1 < w8.heap.size := Nat.lt_of_lt_of_le (show w.heap.size + 1 < w7.heap.size from (by first | (simp; done) | (simp; omega) | omega)) o8.size
      have q8_2 := o8.cell (show g2 < w7.heap.size from (by first | (simp; done) | (simp; omega) | omega)) (BLx_r.ne (by omega))
      have l8_2 : g2 < w8.heap.size := Nat.lt_of_lt_of_le (show g2 < w7.heap.size from (by first | (simp; done) | (simp; omega) | omega)) o8.size
      have q8_3 := o8.cell (show w3.heap.size < w7.heap.size from (by first | (simp; done) | (simp; omega) | omega)) (BLx_r.ne (by omega))
      have l8_3 : w3.heap.size < w8.heap.size := Nat.lt_of_lt_of_le (show w3.heap.size < w7.heap.size from (by first | (simp; done) | (simp; omega) | omega)) o8.size
      have q8_4 := o8.cell (show g4 < w7.heap.size from (by first | (simp; done) | (simp; omega) | omega)) (BLx_r.ne (by omega))
      have l8_4 : g4 < w8.heap.size := Nat.lt_of_lt_of_le (show g4 < w7.heap.size from (by first | (simp; done) | (simp; omega) | omega)) o8.size
      have Nw_8 := Ew_8.far1 o8 (BLw.apart BLx_r (by omega))
      have Ng_8 := Eg_8.far1 o8 (BLg.apart BLx_r (by omega))
      clear o8 P8 X8 Ew_8 Eg_8
      have nk1 : ¬ (1 + (List.length r.map : Int) + (List.length r.noise : Int) * 3 + (List.length r.limits : Int) * 3 < 0) := by omega
      go_wp2_with (fail)
      refine (eqRoom_t y b4 b2 _ (by omega) (RoomSl.below Ng_8.sl (by (repeat (first | (with_reducible exact Below.refl _ _) | (with_reducible assumption) | (with_reducible refine below_al ?_ _) | (with_reducible refine Below.drew ?_) | (with_reducible refine below_drewN ?_ _) | (with_reducible refine below_st ?_ ?_ _) | (with_reducible refine below_tr ?_ (by assumption)) | (with_reducible exact Nat.le_refl _) | (focus (simp; done)) | (focus (simp; omega)))))) (RoomSl.below Nw_8.sl (by (repeat (first | (with_reducible exact Below.refl _ _) | (with_reducible assumption) | (with_reducible refine below_al ?_ _) | (with_reducible refine Below.drew ?_) | (with_reducible refine below_drewN ?_ _) | (with_reducible refine below_st ?_ ?_ _) | (with_reducible refine below_tr ?_ (by assumption)) | (with_reducible exact Nat.le_refl _) | (focus (simp; done)) | (focus (simp; omega))))))).mono ?_
      rintro e w9 ⟨rfl, hb9⟩
      have r9 := bcell1 hb9
      have l9_0 : w.heap.size < w9.heap.size := blt hb9 (by first | (simp; done) | (simp; omega) | omega)
      have l9_1 : w.heap.size + 1 < w9.heap.size := blt hb9 (by first | (simp; done) | (simp; omega) | omega)
      have l9_2 : g2 < w9.heap.size := blt hb9 (by first | (simp; done) | (simp; omega) | omega)
      have l9_3 : w3.heap.size < w9.heap.size := blt hb9 (by first | (simp; done) | (simp; omega) | omega)
      have l9_4 : g4 < w9.heap.size := blt hb9 (by first | (simp; done) | (simp; omega) | omega)
      have z9 : w8.heap.size ≤ w9.heap.size := by have h := hb9.size; (try simp only [World.size_alloc] at h); omega
      have X10 := Ng_8.below (show Below w8.heap.size w8 w9 by (repeat (first | (with_reducible exact Below.refl _ _) | (with_reducible assumption) | (with_reducible refine below_al ?_ _) | (with_reducible refine Below.drew ?_) | (with_reducible refine below_drewN ?_ _) | (with_reducible refine below_st ?_ ?_ _) | (with_reducible refine below_tr ?_ (by assumption)) | (with_reducible exact Nat.le_refl _) | (focus (simp; done)) | (focus (simp; omega))))) (Nat.le_refl _)
      have Ew_10 := Nw_8.below (show Below w8.heap.size w8 w9 by (repeat (first | (with_reducible exact Below.refl _ _) | (with_reducible assumption) | (with_reducible refine below_al ?_ _) | (with_reducible refine Below.drew ?_) | (with_reducible refine below_drewN ?_ _) | (with_reducible refine below_st ?_ ?_ _) | (with_reducible refine below_tr ?_ (by assumption)) | (with_reducible exact Nat.le_refl _) | (focus (simp; done)) | (focus (simp; omega))))) (Nat.le_refl _)
      have P10 : Below w.heap.size w w9 := by (repeat (first | (with_reducible exact Below.refl _ _) | (with_reducible assumption) | (with_reducible refine below_al ?_ _) | (with_reducible refine Below.drew ?_) | (with_reducible refine below_drewN ?_ _) | (with_reducible refine below_st ?_ ?_ _) | (with_reducible refine below_tr ?_ (by assumption)) | (with_reducible exact Nat.le_refl _) | (focus (simp; done)) | (focus (simp; omega))))
      go_wp2_with (fail)
      refine (markRoom_g y b4 (1) _ _ (by omega) (by omega) (by omega) X10).mono ?_
      rintro e w10 ⟨rfl, M10, o10⟩
      have z10 : w9.heap.size ≤ w10.heap.size := by have h := o10.size; (try simp only [World.size_alloc] at h); omega
      have B10 : Below w.heap.size w w10 := P10.trans (o10.below (by first | (simp; done) | (simp; omega) | omega) (BLg.lo (by first | omega | (simp; omega))))
      have q10_0 := o10.cell (show w.heap.size < w9.heap.size from (by first | (simp; done) | (simp; omega) | omega)) (BLg.ne (by omega))
      have l10_0 : w.heap.size < w10.heap.size := Nat.lt_of_lt_of_le (show w.heap.size < w9.heap.size from (by first | (simp; done) | (simp; omega) | omega)) o10.size
      have q10_1 := o10.cell (show w.heap.size + 1 < w9.heap.size from (by first | (simp; done) | (simp; omega) | omega)) (BLg.ne (by omega))
      have l10_1 : w.heap.size + 1 < w10.heap.size := Nat.lt_of_lt_of_le (show w.heap.size + 1 < w9.heap.size from (by first | (simp; done) | (simp; omega) | omega)) o10.size
      have q10_2 := o10.cell (show g2 < w9.heap.size from (by first | (simp; done) | (simp; omega) | omega)) (BLg.ne (by omega))
      have l10_2 : g2 < w10.heap.size := Nat.lt_of_lt_of_le (show g2 < w9.heap.size from (by first | (simp; done) | (simp; omega) | omega)) o10.size
      have q10_3 := o10.cell (show w3.heap.size < w9.heap.size from (by first | (simp; done) | (simp; omega) | omega)) (BLg.ne (by omega))
      have l10_3 : w3.heap.size < w10.heap.size := Nat.lt_of_lt_of_le (show w3.heap.size < w9.heap.size from (by first | (simp; done) | (simp; omega) | omega)) o10.size
      have q10_4 := o10.cell (show g4 < w9.heap.size from (by first | (simp; done) | (simp; omega) | omega)) hg4
      have l10_4 : g4 < w10.heap.size := Nat.lt_of_lt_of_le (show g4 < w9.heap.size from (by first | (simp; done) | (simp; omega) | omega)) o10.size
      have Nw_10 := Ew_10.far1 o10 (BLw.apart BLg (by omega))
      clear o10 P10 X10 Ew_10
      have nkg : ¬ (1 + (List.length y.map : Int) + (List.length y.noise : Int) * 3 + (List.length y.limits : Int) * 3 < 0) := by omega
      go_wp2_with (fail)
      refine (heldRoom_c y b4 (1) _ (by omega) (by omega) (by omega) (RoomMk.below M10 (by (repeat (first | (with_reducible exact Below.refl _ _) | (with_reducible assumption) | (with_reducible refine below_al ?_ _) | (with_reducible refine Below.drew ?_) | (with_reducible refine below_drewN ?_ _) | (with_reducible refine below_st ?_ ?_ _) | (with_reducible refine below_tr ?_ (by assumption)) | (with_reducible exact Nat.le_refl _) | (focus (simp; done)) | (focus (simp; omega))))))).mono ?_
      rintro e w11 ⟨rfl, hb11⟩
      have r11 := bcell1 hb11
      have l11_0 : w.heap.size < w11.heap.size := blt hb11 (by first | (simp; done) | (simp; omega) | omega)
      have l11_1 : w.heap.size + 1 < w11.heap.size := blt hb11 (by first | (simp; done) | (simp; omega) | omega)
      have l11_2 : g2 < w11.heap.size := blt hb11 (by first | (simp; done) | (simp; omega) | omega)
      have l11_3 : w3.heap.size < w11.heap.size := blt hb11 (by first | (simp; done) | (simp; omega) | omega)
      have l11_4 : g4 < w11.heap.size := blt hb11 (by first | (simp; done) | (simp; omega) | omega)
      have z11 : w10.heap.size ≤ w11.heap.size := by have h := hb11.size; (try simp only [World.size_alloc] at h); omega
      go_upto_region 24 with fail
      obtain ⟨I12, hI12⟩ : ∃ I : Act → (Nat → Bool) → Act → World → Prop, I = (fun a0 L a w' => FrameOf a0 a [80, 81, 82, 83, 84, 79, 85, 86, 14, 15] ∧ Below w11.heap.size w11 w' ∧ (L 0 = true → a.tmps[80]?.getD undef = .agg #[.slice r_a.map.A (List.length r.map) r_a.map.c, .int .i64 r.div, .int .i64 r.bx, .int .i64 r.by_, .int .i64 r.low, .int .i64 r.high, .slice r_a.noise.A (List.length r.noise) r_a.noise.c, .slice r_a.limits.A (List.length r.limits) r_a.limits.c]) ∧ (L 1 = true → ∃ b : RoomA, a.tmps[81]?.getD undef = roomV r b ∧ RoomNew w' w11.heap.size r b) ∧ (L 2 = true → a.tmps[82]?.getD undef = .agg #[.int .i64 m.low, .int .i64 m.high]) ∧ (L 3 = true → a.tmps[83]?.getD undef = modeV m) ∧ (L 4 = true → ∃ b : RoomA, a.tmps[84]?.getD undef = .tuple #[roomV y b, .bool ok] ∧ RoomNew w' w11.heap.size y b) ∧ (L 5 = true → ∃ b : RoomA, a.tmps[79]?.getD undef = .tuple #[roomV y b, .bool ok] ∧ RoomNew w' w11.heap.size y b) ∧ (L 6 = true → ∃ b : RoomA, a.tmps[85]?.getD undef = roomV y b ∧ RoomNew w' w11.heap.size y b) ∧ (L 7 = true → a.tmps[86]?.getD undef = .bool ok) ∧ (L 8 = true → ∃ g, a.tmps[14]?.getD undef = .pointer (some ⟨g, 0, none⟩) ∧ w11.heap.size ≤ g ∧ (L 9 = false → HasT w' g 118 [.slice none 0 0, .int .i64 0, .int .i64 0, .int .i64 0, .int .i64 0, .int .i64 0, .slice none 0 0, .slice none 0 0]) ∧ (L 9 = true → (∃ b : RoomA, HasT w' g 118 [.slice b.map.A (List.length y.map) b.map.c, .int .i64 y.div, .int .i64 y.bx, .int .i64 y.by_, .int .i64 y.low, .int .i64 y.high, .slice b.noise.A (List.length y.noise) b.noise.c, .slice b.limits.A (List.length y.limits) b.limits.c] ∧ RoomNew w' w11.heap.size y b))) ∧ (L 10 = true → a.tmps[15]?.getD undef = .bool ok) ∧ (L 9 = true → L 8 = true)) := ⟨_, rfl⟩
      have P12 : Below w.heap.size w w11 := by (repeat (first | (with_reducible exact Below.refl _ _) | (with_reducible assumption) | (with_reducible refine below_al ?_ _) | (with_reducible refine Below.drew ?_) | (with_reducible refine below_drewN ?_ _) | (with_reducible refine below_st ?_ ?_ _) | (with_reducible refine below_tr ?_ (by assumption)) | (with_reducible exact Nat.le_refl _) | (focus (simp; done)) | (focus (simp; omega))))
      refine wp_region_I0 (by kernel_rfl) (by kernel_rfl) I12 ?h0 ?hs ?he
      case h0 =>
        rw [hI12]
        refine ⟨FrameOf.refl _ _, (Below.refl _ _).drew, ?_⟩
        simp
      case hs =>
        intro L a w' i o ho hLi hd hI'
        rw [hI12] at hI'
        obtain ⟨hF, hB, i0, i1, i2, i3, i4, i5, i6, i7, i8, i10, ist⟩ := hI'
        have hi : i < 11 := by
          rcases Nat.lt_or_ge i 11 with h | h
          · exact h
          · rw [List.getElem?_eq_none (by simpa using h)] at ho; cases ho
        have r' := bcell1 hB
        have z' := hB.size
        have PB := below_tr P12 hB
        obtain rfl | rfl | rfl | rfl | rfl | rfl | rfl | rfl | rfl | rfl | rfl : i = 0 ∨ i = 1 ∨ i = 2 ∨ i = 3 ∨ i = 4 ∨ i = 5 ∨ i = 6 ∨ i = 7 ∨ i = 8 ∨ i = 9 ∨ i = 10 := by omega
        · simp only [List.getElem?_cons_zero, Option.some.injEq] at ho
          subst ho
          rw [if_pos (by simp [Region.wanted])]
          have e1 : a.tmps[2]?.getD undef = .pointer (some ⟨w.heap.size, 0, none⟩) := hF.get (by decide)
          simp [go_sem, Array.getD_eq_getD_getElem?, e1, r', r1, r2, r3, r4, r5, r7, q8_0, r9, q10_0, r11, l1_0, l2_0, l3_0, l4_0, l5_0, l8_0, l10_0, l11_0]
          rw [hI12]
          exact ⟨hF.put (by decide) _, hB, fun _ => put_get_self (hF.lt (by simp)) _, fun h => by obtain ⟨b, e, N⟩ := (i1 (by simpa using h)); exact ⟨b, (put_get_ne (by decide) _).trans e, N⟩, fun h => (put_get_ne (by decide) _).trans (i2 (by simpa using h)), fun h => (put_get_ne (by decide) _).trans (i3 (by simpa using h)), fun h => by obtain ⟨b, e, N⟩ := (i4 (by simpa using h)); exact ⟨b, (put_get_ne (by decide) _).trans e, N⟩, fun h => by obtain ⟨b, e, N⟩ := (i5 (by simpa using h)); exact ⟨b, (put_get_ne (by decide) _).trans e, N⟩, fun h => by obtain ⟨b, e, N⟩ := (i6 (by simpa using h)); exact ⟨b, (put_get_ne (by decide) _).trans e, N⟩, fun h => (put_get_ne (by decide) _).trans (i7 (by simpa using h)), fun h => by obtain ⟨g, e, y0, y1, y2⟩ := (i8 (by simpa using h)); exact ⟨g, (put_get_ne (by decide) _).trans e, y0, fun h2 => (y1 (by simpa using h2)), fun h2 => (by obtain ⟨b, y3, y4⟩ := y2 (by simpa using h2); exact ⟨b, y3, y4⟩)⟩, fun h => (put_get_ne (by decide) _).trans (i10 (by simpa using h)), fun h => by have := ist (by simpa using h); simp [this]⟩
        · simp only [List.getElem?_cons_zero, List.getElem?_cons_succ, Option.some.injEq] at ho
          subst ho
          rw [if_pos (by simp [Region.wanted])]
          have e1 := i0 (hd { on := 0, ground := .data } (by simp) (by decide))
          simp [go_sem, Array.getD_eq_getD_getElem?, e1]
          refine (toRoom_c r r_a _ hn_r (RoomSl.below hs_r PB)).mono ?_
          rintro e wx ⟨bx, rfl, N1, hbx⟩
          rw [hI12]
          exact ⟨hF.put (by decide) _, below_tr hB hbx, fun h => (put_get_ne (by decide) _).trans (i0 (by simpa using h)), fun _ => ⟨bx, put_get_self (hF.lt (by simp)) _, N1.mono z'⟩, fun h => (put_get_ne (by decide) _).trans (i2 (by simpa using h)), fun h => (put_get_ne (by decide) _).trans (i3 (by simpa using h)), fun h => by obtain ⟨b, e, N⟩ := (i4 (by simpa using h)); exact ⟨b, (put_get_ne (by decide) _).trans e, (N.below hbx (Nat.le_refl _))⟩, fun h => by obtain ⟨b, e, N⟩ := (i5 (by simpa using h)); exact ⟨b, (put_get_ne (by decide) _).trans e, (N.below hbx (Nat.le_refl _))⟩, fun h => by obtain ⟨b, e, N⟩ := (i6 (by simpa using h)); exact ⟨b, (put_get_ne (by decide) _).trans e, (N.below hbx (Nat.le_refl _))⟩, fun h => (put_get_ne (by decide) _).trans (i7 (by simpa using h)), fun h => by obtain ⟨g, e, y0, y1, y2⟩ := (i8 (by simpa using h)); exact ⟨g, (put_get_ne (by decide) _).trans e, y0, fun h2 => ((y1 (by simpa using h2)).below hbx), fun h2 => (by obtain ⟨b, y3, y4⟩ := y2 (by simpa using h2); exact ⟨b, y3.below hbx, y4.below hbx (Nat.le_refl _)⟩)⟩, fun h => (put_get_ne (by decide) _).trans (i10 (by simpa using h)), fun h => by have := ist (by simpa using h); simp [this]⟩
        · simp only [List.getElem?_cons_zero, List.getElem?_cons_succ, Option.some.injEq] at ho
          subst ho
          rw [if_pos (by simp [Region.wanted])]
          have e1 : a.tmps[3]?.getD undef = .pointer (some ⟨w.heap.size + 1, 0, none⟩) := hF.get (by decide)
          simp [go_sem, Array.getD_eq_getD_getElem?, e1, r', r1, r2, r3, r4, r5, r7, q8_1, r9, q10_1, r11, l1_1, l2_1, l3_0, l3_1, l4_1, l5_1, l8_1, l10_1, l11_1]
          rw [hI12]
          exact ⟨hF.put (by decide) _, hB, fun h => (put_get_ne (by decide) _).trans (i0 (by simpa using h)), fun h => by obtain ⟨b, e, N⟩ := (i1 (by simpa using h)); exact ⟨b, (put_get_ne (by decide) _).trans e, N⟩, fun _ => put_get_self (hF.lt (by simp)) _, fun h => (put_get_ne (by decide) _).trans (i3 (by simpa using h)), fun h => by obtain ⟨b, e, N⟩ := (i4 (by simpa using h)); exact ⟨b, (put_get_ne (by decide) _).trans e, N⟩, fun h => by obtain ⟨b, e, N⟩ := (i5 (by simpa using h)); exact ⟨b, (put_get_ne (by decide) _).trans e, N⟩, fun h => by obtain ⟨b, e, N⟩ := (i6 (by simpa using h)); exact ⟨b, (put_get_ne (by decide) _).trans e, N⟩, fun h => (put_get_ne (by decide) _).trans (i7 (by simpa using h)), fun h => by obtain ⟨g, e, y0, y1, y2⟩ := (i8 (by simpa using h)); exact ⟨g, (put_get_ne (by decide) _).trans e, y0, fun h2 => (y1 (by simpa using h2)), fun h2 => (by obtain ⟨b, y3, y4⟩ := y2 (by simpa using h2); exact ⟨b, y3, y4⟩)⟩, fun h => (put_get_ne (by decide) _).trans (i10 (by simpa using h)), fun h => by have := ist (by simpa using h); simp [this]⟩
        · simp only [List.getElem?_cons_zero, List.getElem?_cons_succ, Option.some.injEq] at ho
          subst ho
          rw [if_pos (by simp [Region.wanted])]
          have e1 := i2 (hd { on := 2, ground := .data } (by simp) (by decide))
          simp [go_sem, Array.getD_eq_getD_getElem?, e1]
          refine (toMode_c m _).mono ?_
          rintro e wx ⟨rfl, hbx⟩
          rw [hI12]
          exact ⟨hF.put (by decide) _, below_tr hB hbx, fun h => (put_get_ne (by decide) _).trans (i0 (by simpa using h)), fun h => by obtain ⟨b, e, N⟩ := (i1 (by simpa using h)); exact ⟨b, (put_get_ne (by decide) _).trans e, (N.below hbx (Nat.le_refl _))⟩, fun h => (put_get_ne (by decide) _).trans (i2 (by simpa using h)), fun _ => put_get_self (hF.lt (by simp)) _, fun h => by obtain ⟨b, e, N⟩ := (i4 (by simpa using h)); exact ⟨b, (put_get_ne (by decide) _).trans e, (N.below hbx (Nat.le_refl _))⟩, fun h => by obtain ⟨b, e, N⟩ := (i5 (by simpa using h)); exact ⟨b, (put_get_ne (by decide) _).trans e, (N.below hbx (Nat.le_refl _))⟩, fun h => by obtain ⟨b, e, N⟩ := (i6 (by simpa using h)); exact ⟨b, (put_get_ne (by decide) _).trans e, (N.below hbx (Nat.le_refl _))⟩, fun h => (put_get_ne (by decide) _).trans (i7 (by simpa using h)), fun h => by obtain ⟨g, e, y0, y1, y2⟩ := (i8 (by simpa using h)); exact ⟨g, (put_get_ne (by decide) _).trans e, y0, fun h2 => ((y1 (by simpa using h2)).below hbx), fun h2 => (by obtain ⟨b, y3, y4⟩ := y2 (by simpa using h2); exact ⟨b, y3.below hbx, y4.below hbx (Nat.le_refl _)⟩)⟩, fun h => (put_get_ne (by decide) _).trans (i10 (by simpa using h)), fun h => by have := ist (by simpa using h); simp [this]⟩
        · simp only [List.getElem?_cons_zero, List.getElem?_cons_succ, Option.some.injEq] at ho
          subst ho
          rw [if_pos (by simp [Region.wanted])]
          obtain ⟨b0, e0, M0⟩ := i1 (hd { on := 1, ground := .data } (by simp) (by decide))
          have e1 := i3 (hd { on := 3, ground := .data } (by simp) (by decide))
          simp [go_sem, Array.getD_eq_getD_getElem?, e0, e1]
          refine (k2 _ b0 M0.sl M0.nil).mono ?_
          rintro e wx ⟨bx, rfl, N1, hbx⟩
          rw [hI12]
          exact ⟨hF.put (by decide) _, below_tr hB hbx, fun h => (put_get_ne (by decide) _).trans (i0 (by simpa using h)), fun h => by obtain ⟨b, e, N⟩ := (i1 (by simpa using h)); exact ⟨b, (put_get_ne (by decide) _).trans e, (N.below hbx (Nat.le_refl _))⟩, fun h => (put_get_ne (by decide) _).trans (i2 (by simpa using h)), fun h => (put_get_ne (by decide) _).trans (i3 (by simpa using h)), fun _ => ⟨bx, put_get_self (hF.lt (by simp)) _, N1.mono z'⟩, fun h => by obtain ⟨b, e, N⟩ := (i5 (by simpa using h)); exact ⟨b, (put_get_ne (by decide) _).trans e, (N.below hbx (Nat.le_refl _))⟩, fun h => by obtain ⟨b, e, N⟩ := (i6 (by simpa using h)); exact ⟨b, (put_get_ne (by decide) _).trans e, (N.below hbx (Nat.le_refl _))⟩, fun h => (put_get_ne (by decide) _).trans (i7 (by simpa using h)), fun h => by obtain ⟨g, e, y0, y1, y2⟩ := (i8 (by simpa using h)); exact ⟨g, (put_get_ne (by decide) _).trans e, y0, fun h2 => ((y1 (by simpa using h2)).below hbx), fun h2 => (by obtain ⟨b, y3, y4⟩ := y2 (by simpa using h2); exact ⟨b, y3.below hbx, y4.below hbx (Nat.le_refl _)⟩)⟩, fun h => (put_get_ne (by decide) _).trans (i10 (by simpa using h)), fun h => by have := ist (by simpa using h); simp [this]⟩
        · simp only [List.getElem?_cons_zero, List.getElem?_cons_succ, Option.some.injEq] at ho
          subst ho
          rw [if_pos (by simp [Region.wanted])]
          obtain ⟨b, e1, N1⟩ := i4 (hd { on := 4, ground := .data } (by simp) (by decide))
          simp [go_sem, Array.getD_eq_getD_getElem?, e1]
          rw [hI12]
          exact ⟨hF.put (by decide) _, hB, fun h => (put_get_ne (by decide) _).trans (i0 (by simpa using h)), fun h => by obtain ⟨b, e, N⟩ := (i1 (by simpa using h)); exact ⟨b, (put_get_ne (by decide) _).trans e, N⟩, fun h => (put_get_ne (by decide) _).trans (i2 (by simpa using h)), fun h => (put_get_ne (by decide) _).trans (i3 (by simpa using h)), fun h => by obtain ⟨b, e, N⟩ := (i4 (by simpa using h)); exact ⟨b, (put_get_ne (by decide) _).trans e, N⟩, fun _ => ⟨b, put_get_self (hF.lt (by simp)) _, N1⟩, fun h => by obtain ⟨b, e, N⟩ := (i6 (by simpa using h)); exact ⟨b, (put_get_ne (by decide) _).trans e, N⟩, fun h => (put_get_ne (by decide) _).trans (i7 (by simpa using h)), fun h => by obtain ⟨g, e, y0, y1, y2⟩ := (i8 (by simpa using h)); exact ⟨g, (put_get_ne (by decide) _).trans e, y0, fun h2 => (y1 (by simpa using h2)), fun h2 => (by obtain ⟨b, y3, y4⟩ := y2 (by simpa using h2); exact ⟨b, y3, y4⟩)⟩, fun h => (put_get_ne (by decide) _).trans (i10 (by simpa using h)), fun h => by have := ist (by simpa using h); simp [this]⟩
        · simp only [List.getElem?_cons_zero, List.getElem?_cons_succ, Option.some.injEq] at ho
          subst ho
          rw [if_pos (by simp [Region.wanted])]
          obtain ⟨b, e1, N1⟩ := i5 (hd { on := 5, ground := .data } (by simp) (by decide))
          simp [go_sem, Array.getD_eq_getD_getElem?, e1]
          rw [hI12]
          exact ⟨hF.put (by decide) _, hB, fun h => (put_get_ne (by decide) _).trans (i0 (by simpa using h)), fun h => by obtain ⟨b, e, N⟩ := (i1 (by simpa using h)); exact ⟨b, (put_get_ne (by decide) _).trans e, N⟩, fun h => (put_get_ne (by decide) _).trans (i2 (by simpa using h)), fun h => (put_get_ne (by decide) _).trans (i3 (by simpa using h)), fun h => by obtain ⟨b, e, N⟩ := (i4 (by simpa using h)); exact ⟨b, (put_get_ne (by decide) _).trans e, N⟩, fun h => by obtain ⟨b, e, N⟩ := (i5 (by simpa using h)); exact ⟨b, (put_get_ne (by decide) _).trans e, N⟩, fun _ => ⟨b, put_get_self (hF.lt (by simp)) _, N1⟩, fun h => (put_get_ne (by decide) _).trans (i7 (by simpa using h)), fun h => by obtain ⟨g, e, y0, y1, y2⟩ := (i8 (by simpa using h)); exact ⟨g, (put_get_ne (by decide) _).trans e, y0, fun h2 => (y1 (by simpa using h2)), fun h2 => (by obtain ⟨b, y3, y4⟩ := y2 (by simpa using h2); exact ⟨b, y3, y4⟩)⟩, fun h => (put_get_ne (by decide) _).trans (i10 (by simpa using h)), fun h => by have := ist (by simpa using h); simp [this]⟩
        · simp only [List.getElem?_cons_zero, List.getElem?_cons_succ, Option.some.injEq] at ho
          subst ho
          rw [if_pos (by simp [Region.wanted])]
          obtain ⟨b, e1, N1⟩ := i5 (hd { on := 5, ground := .data } (by simp) (by decide))
          simp [go_sem, Array.getD_eq_getD_getElem?, e1]
          rw [hI12]
          exact ⟨hF.put (by decide) _, hB, fun h => (put_get_ne (by decide) _).trans (i0 (by simpa using h)), fun h => by obtain ⟨b, e, N⟩ := (i1 (by simpa using h)); exact ⟨b, (put_get_ne (by decide) _).trans e, N⟩, fun h => (put_get_ne (by decide) _).trans (i2 (by simpa using h)), fun h => (put_get_ne (by decide) _).trans (i3 (by simpa using h)), fun h => by obtain ⟨b, e, N⟩ := (i4 (by simpa using h)); exact ⟨b, (put_get_ne (by decide) _).trans e, N⟩, fun h => by obtain ⟨b, e, N⟩ := (i5 (by simpa using h)); exact ⟨b, (put_get_ne (by decide) _).trans e, N⟩, fun h => by obtain ⟨b, e, N⟩ := (i6 (by simpa using h)); exact ⟨b, (put_get_ne (by decide) _).trans e, N⟩, fun _ => put_get_self (hF.lt (by simp)) _, fun h => by obtain ⟨g, e, y0, y1, y2⟩ := (i8 (by simpa using h)); exact ⟨g, (put_get_ne (by decide) _).trans e, y0, fun h2 => (y1 (by simpa using h2)), fun h2 => (by obtain ⟨b, y3, y4⟩ := y2 (by simpa using h2); exact ⟨b, y3, y4⟩)⟩, fun h => (put_get_ne (by decide) _).trans (i10 (by simpa using h)), fun h => by have := ist (by simpa using h); simp [this]⟩
        · simp only [List.getElem?_cons_zero, List.getElem?_cons_succ, Option.some.injEq] at ho
          subst ho
          rw [if_pos (by simp [Region.wanted])]
          simp [go_sem]
          rw [hI12]
          exact ⟨hF.put (by decide) _, below_al hB _, fun h => (put_get_ne (by decide) _).trans (i0 (by simpa using h)), fun h => by obtain ⟨b, e, N⟩ := (i1 (by simpa using h)); exact ⟨b, (put_get_ne (by decide) _).trans e, (N.below (below_al (Below.refl _ _) _) (Nat.le_refl _))⟩, fun h => (put_get_ne (by decide) _).trans (i2 (by simpa using h)), fun h => (put_get_ne (by decide) _).trans (i3 (by simpa using h)), fun h => by obtain ⟨b, e, N⟩ := (i4 (by simpa using h)); exact ⟨b, (put_get_ne (by decide) _).trans e, (N.below (below_al (Below.refl _ _) _) (Nat.le_refl _))⟩, fun h => by obtain ⟨b, e, N⟩ := (i5 (by simpa using h)); exact ⟨b, (put_get_ne (by decide) _).trans e, (N.below (below_al (Below.refl _ _) _) (Nat.le_refl _))⟩, fun h => by obtain ⟨b, e, N⟩ := (i6 (by simpa using h)); exact ⟨b, (put_get_ne (by decide) _).trans e, (N.below (below_al (Below.refl _ _) _) (Nat.le_refl _))⟩, fun h => (put_get_ne (by decide) _).trans (i7 (by simpa using h)), fun _ => ⟨w'.heap.size, put_get_self (hF.lt (by simp)) _, z', fun _ => HasT.new w' [.slice none 0 0, .int .i64 0, .int .i64 0, .int .i64 0, .int .i64 0, .int .i64 0, .slice none 0 0, .slice none 0 0] _, fun h => by have := ist (by simpa using h); rw [hLi] at this; cases this⟩, fun h => (put_get_ne (by decide) _).trans (i10 (by simpa using h)), fun _ => by simp⟩
        · simp only [List.getElem?_cons_zero, List.getElem?_cons_succ, Option.some.injEq] at ho
          subst ho
          rw [if_pos (by simp [Region.wanted])]
          obtain ⟨g, e6, hg, y1, _⟩ := i8 (hd { on := 8, ground := .data } (by simp) (by decide))
          have HT := y1 hLi
          have hgn := hg
          obtain ⟨b, e1, N1⟩ := i6 (hd { on := 6, ground := .data } (by simp) (by decide))
          have HH := HT.has
          obtain ⟨cH_0, fH_0⟩ := HH.2 0 _ rfl
          obtain ⟨cH_1, fH_1⟩ := HH.2 1 _ rfl
          obtain ⟨cH_2, fH_2⟩ := HH.2 2 _ rfl
          obtain ⟨cH_3, fH_3⟩ := HH.2 3 _ rfl
          obtain ⟨cH_4, fH_4⟩ := HH.2 4 _ rfl
          obtain ⟨cH_5, fH_5⟩ := HH.2 5 _ rfl
          obtain ⟨cH_6, fH_6⟩ := HH.2 6 _ rfl
          obtain ⟨cH_7, fH_7⟩ := HH.2 7 _ rfl
          have lH := HH.1
          simp [go_sem, Array.getD_eq_getD_getElem?, e1, e6, cH_0, fH_0, cH_1, fH_1, cH_2, fH_2, cH_3, fH_3, cH_4, fH_4, cH_5, fH_5, cH_6, fH_6, cH_7, fH_7]
          rw [hI12]
          exact ⟨hF, (below_cells hB (o := 0) hgn [_, _, _, _, _, _, _, _]), fun h => (i0 (by simpa using h)), fun h => by obtain ⟨b, e, N⟩ := (i1 (by simpa using h)); exact ⟨b, e, (N.otherT HT (by decide) (by decide) [_, _, _, _, _, _, _, _] 0)⟩, fun h => (i2 (by simpa using h)), fun h => (i3 (by simpa using h)), fun h => by obtain ⟨b, e, N⟩ := (i4 (by simpa using h)); exact ⟨b, e, (N.otherT HT (by decide) (by decide) [_, _, _, _, _, _, _, _] 0)⟩, fun h => by obtain ⟨b, e, N⟩ := (i5 (by simpa using h)); exact ⟨b, e, (N.otherT HT (by decide) (by decide) [_, _, _, _, _, _, _, _] 0)⟩, fun h => by obtain ⟨b, e, N⟩ := (i6 (by simpa using h)); exact ⟨b, e, (N.otherT HT (by decide) (by decide) [_, _, _, _, _, _, _, _] 0)⟩, fun h => (i7 (by simpa using h)), fun _ => ⟨g, e6, hg, fun h => by simp at h, fun _ => ⟨b, HasT.store (us := [_, _, _, _, _, _, _, _]) HT rfl, (N1.otherT HT (by decide) (by decide) [_, _, _, _, _, _, _, _] 0)⟩⟩, fun h => (i10 (by simpa using h)), fun _ => by have := (hd { on := 8, ground := .data } (by simp) (by decide)); simp [this]⟩
        · simp only [List.getElem?_cons_zero, List.getElem?_cons_succ, Option.some.injEq] at ho
          subst ho
          rw [if_pos (by simp [Region.wanted])]
          have e1 := i7 (hd { on := 7, ground := .data } (by simp) (by decide))
          simp [go_sem, Array.getD_eq_getD_getElem?, e1]
          rw [hI12]
          exact ⟨hF.put (by decide) _, hB, fun h => (put_get_ne (by decide) _).trans (i0 (by simpa using h)), fun h => by obtain ⟨b, e, N⟩ := (i1 (by simpa using h)); exact ⟨b, (put_get_ne (by decide) _).trans e, N⟩, fun h => (put_get_ne (by decide) _).trans (i2 (by simpa using h)), fun h => (put_get_ne (by decide) _).trans (i3 (by simpa using h)), fun h => by obtain ⟨b, e, N⟩ := (i4 (by simpa using h)); exact ⟨b, (put_get_ne (by decide) _).trans e, N⟩, fun h => by obtain ⟨b, e, N⟩ := (i5 (by simpa using h)); exact ⟨b, (put_get_ne (by decide) _).trans e, N⟩, fun h => by obtain ⟨b, e, N⟩ := (i6 (by simpa using h)); exact ⟨b, (put_get_ne (by decide) _).trans e, N⟩, fun h => (put_get_ne (by decide) _).trans (i7 (by simpa using h)), fun h => by obtain ⟨g, e, y0, y1, y2⟩ := (i8 (by simpa using h)); exact ⟨g, (put_get_ne (by decide) _).trans e, y0, fun h2 => (y1 (by simpa using h2)), fun h2 => (by obtain ⟨b, y3, y4⟩ := y2 (by simpa using h2); exact ⟨b, y3, y4⟩)⟩, fun _ => put_get_self (hF.lt (by simp)) _, fun h => by have := ist (by simpa using h); simp [this]⟩
      case he =>
        intro L a' w12 hL hI'
        rw [hI12] at hI'
        obtain ⟨hF, hb12, i0, i1, i2, i3, i4, i5, i6, i7, i8, i10, ist⟩ := hI'
        obtain ⟨g12, e12_b, zg12, _, hst⟩ := i8 (hL 8 (by decide))
        (try simp only [World.size_alloc] at zg12)
        obtain ⟨b12, HT12, N12⟩ := hst (hL 9 (by decide))
        have e12_10 := i10 (hL 10 (by decide))
        have hout := hF.outG (by simp)
        simp only [List.foldl_cons, List.foldl_nil, e12_b, e12_10] at hout
        rw [hout]
        generalize a'.tmps[80]?.getD undef = x12_80
        generalize a'.tmps[81]?.getD undef = x12_81
        generalize a'.tmps[82]?.getD undef = x12_82
        generalize a'.tmps[83]?.getD undef = x12_83
        generalize a'.tmps[84]?.getD undef = x12_84
        generalize a'.tmps[79]?.getD undef = x12_79
        generalize a'.tmps[85]?.getD undef = x12_85
        generalize a'.tmps[86]?.getD undef = x12_86
        clear hout hI12 hF hL i0 i1 i2 i3 i4 i5 i6 i7 i8 i10 ist
        go_simp
        have r12 := bcell1 hb12
        have l12_0 : w.heap.size < w12.heap.size := blt hb12 (by first | (simp; done) | (simp; omega) | omega)
        have l12_1 : w.heap.size + 1 < w12.heap.size := blt hb12 (by first | (simp; done) | (simp; omega) | omega)
        have l12_2 : g2 < w12.heap.size := blt hb12 (by first | (simp; done) | (simp; omega) | omega)
        have l12_3 : w3.heap.size < w12.heap.size := blt hb12 (by first | (simp; done) | (simp; omega) | omega)
        have l12_4 : g4 < w12.heap.size := blt hb12 (by first | (simp; done) | (simp; omega) | omega)
        have z12 : w11.heap.size ≤ w12.heap.size := by have h := hb12.size; (try simp only [World.size_alloc] at h); omega
        have H12 := HT12.has
        have lH12 := H12.1
        obtain ⟨cH12_0, _⟩ := H12.2 0 _ rfl
        obtain ⟨cH12_1, _⟩ := H12.2 1 _ rfl
        obtain ⟨cH12_2, _⟩ := H12.2 2 _ rfl
        obtain ⟨cH12_3, _⟩ := H12.2 3 _ rfl
        obtain ⟨cH12_4, _⟩ := H12.2 4 _ rfl
        obtain ⟨cH12_5, _⟩ := H12.2 5 _ rfl
        obtain ⟨cH12_6, _⟩ := H12.2 6 _ rfl
        obtain ⟨cH12_7, _⟩ := H12.2 7 _ rfl
        have BLh : BlkL (w11.heap.size) (w12.heap.size) [b12.map, b12.noise, b12.limits] := by
          have h := N12.blkL
          (try simp only [World.size_alloc] at h)
          exact h
        have hg12 := N12.neT HT12 (by decide) (by decide)
        go_wp2_with (fail)
        refine (eqRoom_t y b12 b2 _ (by omega) (RoomSl.below N12.sl (by (repeat (first | (with_reducible exact Below.refl _ _) | (with_reducible assumption) | (with_reducible refine below_al ?_ _) | (with_reducible refine Below.drew ?_) | (with_reducible refine below_drewN ?_ _) | (with_reducible refine below_st ?_ ?_ _) | (with_reducible refine below_tr ?_ (by assumption)) | (with_reducible exact Nat.le_refl _) | (focus (simp; done)) | (focus (simp; omega)))))) (RoomSl.below Nw_10.sl (by (repeat (first | (with_reducible exact Below.refl _ _) | (with_reducible assumption) | (with_reducible refine below_al ?_ _) | (with_reducible refine Below.drew ?_) | (with_reducible refine below_drewN ?_ _) | (with_reducible refine below_st ?_ ?_ _) | (with_reducible refine below_tr ?_ (by assumption)) | (with_reducible exact Nat.le_refl _) | (focus (simp; done)) | (focus (simp; omega))))))).mono ?_
        rintro e w13 ⟨rfl, hb13⟩
        have r13 := bcell1 hb13
        have l13_0 : w.heap.size < w13.heap.size := blt hb13 (by first | (simp; done) | (simp; omega) | omega)
        have l13_1 : w.heap.size + 1 < w13.heap.size := blt hb13 (by first | (simp; done) | (simp; omega) | omega)
        have l13_2 : g2 < w13.heap.size := blt hb13 (by first | (simp; done) | (simp; omega) | omega)
        have l13_3 : w3.heap.size < w13.heap.size := blt hb13 (by first | (simp; done) | (simp; omega) | omega)
        have l13_4 : g4 < w13.heap.size := blt hb13 (by first | (simp; done) | (simp; omega) | omega)
        have l13_5 : g12 < w13.heap.size := blt hb13 (by first | (simp; done) | (simp; omega) | omega)
        have z13 : w12.heap.size ≤ w13.heap.size := by have h := hb13.size; (try simp only [World.size_alloc] at h); omega
        go_wp2_with (fail)
        refine (heldRoom_c y b4 (1) _ (by omega) (by omega) (by omega) (RoomMk.below M10 (by (repeat (first | (with_reducible exact Below.refl _ _) | (with_reducible assumption) | (with_reducible refine below_al ?_ _) | (with_reducible refine Below.drew ?_) | (with_reducible refine below_drewN ?_ _) | (with_reducible refine below_st ?_ ?_ _) | (with_reducible refine below_tr ?_ (by assumption)) | (with_reducible exact Nat.le_refl _) | (focus (simp; done)) | (focus (simp; omega))))))).mono ?_
        rintro e w14 ⟨rfl, hb14⟩
        have r14 := bcell1 hb14
        have l14_0 : w.heap.size < w14.heap.size := blt hb14 (by first | (simp; done) | (simp; omega) | omega)
        have l14_1 : w.heap.size + 1 < w14.heap.size := blt hb14 (by first | (simp; done) | (simp; omega) | omega)
        have l14_2 : g2 < w14.heap.size := blt hb14 (by first | (simp; done) | (simp; omega) | omega)
        have l14_3 : w3.heap.size < w14.heap.size := blt hb14 (by first | (simp; done) | (simp; omega) | omega)
        have l14_4 : g4 < w14.heap.size := blt hb14 (by first | (simp; done) | (simp; omega) | omega)
        have l14_5 : g12 < w14.heap.size := blt hb14 (by first | (simp; done) | (simp; omega) | omega)
        have z14 : w13.heap.size ≤ w14.heap.size := by have h := hb14.size; (try simp only [World.size_alloc] at h); omega
        go_wp2
        go_ret
        refine ⟨rfl, ?_⟩
        repeat (first | (with_reducible exact Below.refl _ _) | (with_reducible assumption) | (with_reducible refine below_al ?_ _) | (with_reducible refine Below.drew ?_) | (with_reducible refine below_drewN ?_ _) | (with_reducible refine below_st ?_ ?_ _) | (with_reducible refine below_tr ?_ (by assumption)) | (with_reducible exact Nat.le_refl _) | (focus (simp; done)) | (focus (simp; omega)))

set_option maxRecDepth 100000 in
theorem lifted_ModeRoom (os : Os) (started : os.Started) (H : Type) (enc : TypeId × Value → H) :
    ReturnsInHanded {} Try.checked os 12 .any (Rows.fnExactModeRoomSpec.pre6 enc Try.prog Try.f12 Rows.fnExactModeRoomRow.domain false) (Rows.fnExactModeRoomSpec.post enc Try.prog Try.f12 false true false false) := by
  refine returnsInHanded_of_change (C := Try.checked) own_ started (by kernel_rfl) Try.func12
    (ChangeSpec.witness6 (enc := enc) (C := Try.checked) false ⟨#[], #[.agg #[.slice none 0 0, .int .i64 0, .int .i64 0, .int .i64 0, .int .i64 0, .int .i64 0, .slice none 0 0, .slice none 0 0], .agg #[.int .i64 0, .int .i64 0]], []⟩ 8 (by kernel_rfl) (by kernel_rfl) (by kernel_rfl) (by kernel_rfl)) ?_
  intro W base args ds gs before hval0 hW hcnd _
  have hval : ∀ (j : Nat) t v, Try.f12.params[j]? = some t → args[j]? = some v → Value.okWide Try.prog W .any base t v := hval0
  have hW' := hW
  obtain ⟨p, q, hA0, hV, rfl, hfz, hnd⟩ := hW
  have hA : DataW.TrodAll enc Try.prog W 0 (fun _ => true) true Try.f12.params.toList args.toList ds p := hA0
  rw [Try.params12] at hA hval
  obtain ⟨v0, vs0, d0, ds0, p0, q0, hargs, rfl, rfl, h0, r0⟩ := trodAll_cons hA
  obtain ⟨v1, vs1, d1, ds1, p1, q1, rfl, rfl, rfl, h1, r1⟩ := trodAll_cons r0
  obtain ⟨rfl, rfl, rfl⟩ := trodAll_nil r1
  obtain rfl : args = #[v0, v1] := by cases args; simp_all
  obtain ⟨rfl, rfl⟩ := trodVars_none hV
  have k0 := h0
  have lt0 : ∀ x ∈ p0, x.block < W.heap.size := by obtain ⟨m, hm⟩ := k0; exact DataW.trod_lt m _ _ _ hm
  have ok0 := hval 0 112 v0 rfl rfl
  have k1 := h1
  have lt1 : ∀ x ∈ p1, x.block < W.heap.size := by obtain ⟨m, hm⟩ := k1; exact DataW.trod_lt m _ _ _ hm
  have ok1 := hval 1 127 v1 rfl rfl
  obtain ⟨r, r_a, hin_r, rfl, hl_r, hs_r⟩ := openRoom ok0 h0
  obtain ⟨m, hin_m, rfl⟩ := openMode ok1 h1
  refine (walkModeRoom W r r_a hin_r hl_r hs_r m hin_m).mono fun e W' ⟨he, bel⟩ => ?_
  subst he
  exact ⟨_, rfl, _, _, _, [], _, [], hW', trodAll_mk1 (shut_bool Try.underlying4 _), (trodAll_cons_mk (Below.trod laidOut_ (by kernel_rfl) (of_decide_eq_true (by kernel_rfl)) k0 bel lt0) (trodAll_cons_mk (Below.trod laidOut_ (by kernel_rfl) (of_decide_eq_true (by kernel_rfl)) k1 bel lt1) trodAll_mk0)), rfl, bel.frame _, fun h => by cases h⟩

/-- The statement. -/
theorem law_ModeRoom : Rows.FnExactModeRoomSaid :=
  OpenClaim.holds_of_wide 12 Try.f12 rfl rfl rfl rfl rfl rfl rfl ⟨rfl, rfl, rfl, rfl, rfl⟩ rfl rfl rfl rfl rfl (by kernel_rfl) Try.func12 (by kernel_rfl)
    (of_decide_eq_true (by kernel_rfl)) (by unfold Func.isWrapper; first | (rw [if_pos (by decide +kernel)]; kernel_rfl) | (rw [if_neg (by decide +kernel)]; exact ⟨rfl, rfl⟩))
    (fun os started H enc _ => lifted_ModeRoom os started H enc)
#print axioms law_ModeRoom
end Go.Proofs.Ytbdihgcjopbnjaa
