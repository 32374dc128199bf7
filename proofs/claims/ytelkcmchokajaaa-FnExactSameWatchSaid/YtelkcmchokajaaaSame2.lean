/-
  SameRegion, SameRooms, SameWatch: of the program and of the reference.
  Conditions: the slices hold at most 2^20 elements.
-/
import Derived.Test.YtelkcmchokajaaaSame
namespace Go.Proofs.Ytelkcmchokajaaa
open Go.RowKit

def sameRooms (x y : Room) : Bool := eqB x.map y.map && x.div == y.div && x.bx == y.bx && x.by_ == y.by_ && x.low == y.low && x.high == y.high && eqB x.noise y.noise && eqB x.limits y.limits
def sameWatch (x y : Watch) : Bool := sameRooms x.room y.room && eqB x.reg y.reg && eqB x.log y.log
theorem lenb {n m : Nat} (h : (((n : Nat) : Int) != ((m : Nat) : Int)) = true) : n ≠ m := by simp at h; omega
theorem lene {n m : Nat} (h : (((n : Nat) : Int) != ((m : Nat) : Int)) = false) : n = m := by simp at h; omega
theorem ne_of_bne {a b : Int} (h : (a != b) = true) : (a == b) = false := by simpa using h
theorem eq_of_bne {a b : Int} (h : (a != b) = false) : (a == b) = true := by simpa using h

theorem iSameRegion_c (p q : List Half) (a b : SlA) (w : World) (hp : p.length ≤ 1048576) (hq : q.length ≤ 1048576) (ha : Sl 3 halfC w a.A p) (hb : Sl 3 halfC w b.A q) :
    Calls Try.prog 98 #[regionV p a, regionV q b] w fun e w' => e = .returned (.bool (eqB p q)) ∧ Below w.heap.size w w' := by
  go_enter Try.func98, Try.ntmps98
  go_wp2_with (fail)
  refine (eqHalves_q a.A b.A p q _ _ _ hp hq (Sl.below ha (by (repeat (first | (with_reducible exact Below.refl _ _) | (with_reducible assumption) | (with_reducible refine below_al ?_ _) | (with_reducible refine Below.drew ?_) | (with_reducible refine below_drewN ?_ _) | (with_reducible refine below_st ?_ ?_ _) | (with_reducible refine below_tr ?_ (by assumption)) | (with_reducible exact Nat.le_refl _) | (focus (simp; done)) | (focus (simp; omega)))))) (Sl.below hb (by (repeat (first | (with_reducible exact Below.refl _ _) | (with_reducible assumption) | (with_reducible refine below_al ?_ _) | (with_reducible refine Below.drew ?_) | (with_reducible refine below_drewN ?_ _) | (with_reducible refine below_st ?_ ?_ _) | (with_reducible refine below_tr ?_ (by assumption)) | (with_reducible exact Nat.le_refl _) | (focus (simp; done)) | (focus (simp; omega))))))).mono ?_
  rintro e w' ⟨rfl, n, rfl⟩
  go_wp2
  go_ret
  refine ⟨rfl, ?_⟩
  repeat (first | (with_reducible exact Below.refl _ _) | (with_reducible assumption) | (with_reducible refine below_al ?_ _) | (with_reducible refine Below.drew ?_) | (with_reducible refine below_drewN ?_ _) | (with_reducible refine below_st ?_ ?_ _) | (with_reducible refine below_tr ?_ (by assumption)) | (with_reducible exact Nat.le_refl _) | (focus (simp; done)) | (focus (simp; omega)))
set_option maxRecDepth 100000 in
set_option maxHeartbeats 2000000 in
theorem iSameRooms_c (x y : Room) (a b : RoomA) (w : World) (hx : roomLen x ≤ 1048576) (hy : roomLen y ≤ 1048576) (ha : RoomSl w x a) (hb : RoomSl w y b) :
    Calls Try.prog 97 #[roomV x a, roomV y b] w fun e w' => e = .returned (.bool (sameRooms x y)) ∧ Below w.heap.size w w' := by
  simp only [roomLen] at hx hy
  have c0 := fun W h1 h2 => eqInts_q a.map.A b.map.A x.map y.map a.map.c b.map.c W (by omega) (by omega) h1 h2
  have c6 := fun W h1 h2 => iSameRegion_c x.noise y.noise a.noise b.noise W (by omega) (by omega) h1 h2
  have c7 := fun W h1 h2 => iSameRegion_c x.limits y.limits a.limits b.limits W (by omega) (by omega) h1 h2
  cases e0 : eqB x.map y.map
  · skip
    rw [e0] at c0
    go_enter Try.func97, Try.ntmps97
    go_wp2_with (fail)
    refine (c0 _ (Sl.below ha.map (by (repeat (first | (with_reducible exact Below.refl _ _) | (with_reducible assumption) | (with_reducible refine below_al ?_ _) | (with_reducible refine Below.drew ?_) | (with_reducible refine below_drewN ?_ _) | (with_reducible refine below_st ?_ ?_ _) | (with_reducible refine below_tr ?_ (by assumption)) | (with_reducible exact Nat.le_refl _) | (focus (simp; done)) | (focus (simp; omega)))))) (Sl.below hb.map (by (repeat (first | (with_reducible exact Below.refl _ _) | (with_reducible assumption) | (with_reducible refine below_al ?_ _) | (with_reducible refine Below.drew ?_) | (with_reducible refine below_drewN ?_ _) | (with_reducible refine below_st ?_ ?_ _) | (with_reducible refine below_tr ?_ (by assumption)) | (with_reducible exact Nat.le_refl _) | (focus (simp; done)) | (focus (simp; omega))))))).mono ?_
    rintro e w' ⟨rfl, nd0, rfl⟩
    go_wp2
    go_ret
    refine ⟨ret_bool (by simp [sameRooms, e0]), ?_⟩
    repeat (first | (with_reducible exact Below.refl _ _) | (with_reducible assumption) | (with_reducible refine below_al ?_ _) | (with_reducible refine Below.drew ?_) | (with_reducible refine below_drewN ?_ _) | (with_reducible refine below_st ?_ ?_ _) | (with_reducible refine below_tr ?_ (by assumption)) | (with_reducible exact Nat.le_refl _) | (focus (simp; done)) | (focus (simp; omega)))
  · skip
    rw [e0] at c0
    cases e1 : (x.div != y.div)
    · skip
      cases e2 : (x.bx != y.bx)
      · skip
        cases e3 : (x.by_ != y.by_)
        · skip
          cases e4 : (x.low != y.low)
          · skip
            cases e5 : (x.high != y.high)
            · skip
              cases e6 : eqB x.noise y.noise
              · skip
                rw [e6] at c6
                go_enter Try.func97, Try.ntmps97
                go_wp2_with (fail)
                refine (c0 _ (Sl.below ha.map (by (repeat (first | (with_reducible exact Below.refl _ _) | (with_reducible assumption) | (with_reducible refine below_al ?_ _) | (with_reducible refine Below.drew ?_) | (with_reducible refine below_drewN ?_ _) | (with_reducible refine below_st ?_ ?_ _) | (with_reducible refine below_tr ?_ (by assumption)) | (with_reducible exact Nat.le_refl _) | (focus (simp; done)) | (focus (simp; omega)))))) (Sl.below hb.map (by (repeat (first | (with_reducible exact Below.refl _ _) | (with_reducible assumption) | (with_reducible refine below_al ?_ _) | (with_reducible refine Below.drew ?_) | (with_reducible refine below_drewN ?_ _) | (with_reducible refine below_st ?_ ?_ _) | (with_reducible refine below_tr ?_ (by assumption)) | (with_reducible exact Nat.le_refl _) | (focus (simp; done)) | (focus (simp; omega))))))).mono ?_
                rintro e w' ⟨rfl, nd0, rfl⟩
                go_wp2_with (fail)
                refine (c6 _ (Sl.below ha.noise.halves (by (repeat (first | (with_reducible exact Below.refl _ _) | (with_reducible assumption) | (with_reducible refine below_al ?_ _) | (with_reducible refine Below.drew ?_) | (with_reducible refine below_drewN ?_ _) | (with_reducible refine below_st ?_ ?_ _) | (with_reducible refine below_tr ?_ (by assumption)) | (with_reducible exact Nat.le_refl _) | (focus (simp; done)) | (focus (simp; omega)))))) (Sl.below hb.noise.halves (by (repeat (first | (with_reducible exact Below.refl _ _) | (with_reducible assumption) | (with_reducible refine below_al ?_ _) | (with_reducible refine Below.drew ?_) | (with_reducible refine below_drewN ?_ _) | (with_reducible refine below_st ?_ ?_ _) | (with_reducible refine below_tr ?_ (by assumption)) | (with_reducible exact Nat.le_refl _) | (focus (simp; done)) | (focus (simp; omega))))))).mono ?_
                rintro e w6 ⟨rfl, hb6⟩
                have r6 := bcell1 hb6
                have l6_0 : w.heap.size < w6.heap.size := blt hb6 (by first | (simp; done) | (simp; omega) | omega)
                have l6_1 : w.heap.size + 1 < w6.heap.size := blt hb6 (by first | (simp; done) | (simp; omega) | omega)
                go_wp2
                go_ret
                refine ⟨ret_bool (by simp [sameRooms, e0, eq_of_bne e1, eq_of_bne e2, eq_of_bne e3, eq_of_bne e4, eq_of_bne e5, e6]), ?_⟩
                repeat (first | (with_reducible exact Below.refl _ _) | (with_reducible assumption) | (with_reducible refine below_al ?_ _) | (with_reducible refine Below.drew ?_) | (with_reducible refine below_drewN ?_ _) | (with_reducible refine below_st ?_ ?_ _) | (with_reducible refine below_tr ?_ (by assumption)) | (with_reducible exact Nat.le_refl _) | (focus (simp; done)) | (focus (simp; omega)))
              · skip
                rw [e6] at c6
                cases e7 : eqB x.limits y.limits
                · skip
                  rw [e7] at c7
                  go_enter Try.func97, Try.ntmps97
                  go_wp2_with (fail)
                  refine (c0 _ (Sl.below ha.map (by (repeat (first | (with_reducible exact Below.refl _ _) | (with_reducible assumption) | (with_reducible refine below_al ?_ _) | (with_reducible refine Below.drew ?_) | (with_reducible refine below_drewN ?_ _) | (with_reducible refine below_st ?_ ?_ _) | (with_reducible refine below_tr ?_ (by assumption)) | (with_reducible exact Nat.le_refl _) | (focus (simp; done)) | (focus (simp; omega)))))) (Sl.below hb.map (by (repeat (first | (with_reducible exact Below.refl _ _) | (with_reducible assumption) | (with_reducible refine below_al ?_ _) | (with_reducible refine Below.drew ?_) | (with_reducible refine below_drewN ?_ _) | (with_reducible refine below_st ?_ ?_ _) | (with_reducible refine below_tr ?_ (by assumption)) | (with_reducible exact Nat.le_refl _) | (focus (simp; done)) | (focus (simp; omega))))))).mono ?_
                  rintro e w' ⟨rfl, nd0, rfl⟩
                  go_wp2_with (fail)
                  refine (c6 _ (Sl.below ha.noise.halves (by (repeat (first | (with_reducible exact Below.refl _ _) | (with_reducible assumption) | (with_reducible refine below_al ?_ _) | (with_reducible refine Below.drew ?_) | (with_reducible refine below_drewN ?_ _) | (with_reducible refine below_st ?_ ?_ _) | (with_reducible refine below_tr ?_ (by assumption)) | (with_reducible exact Nat.le_refl _) | (focus (simp; done)) | (focus (simp; omega)))))) (Sl.below hb.noise.halves (by (repeat (first | (with_reducible exact Below.refl _ _) | (with_reducible assumption) | (with_reducible refine below_al ?_ _) | (with_reducible refine Below.drew ?_) | (with_reducible refine below_drewN ?_ _) | (with_reducible refine below_st ?_ ?_ _) | (with_reducible refine below_tr ?_ (by assumption)) | (with_reducible exact Nat.le_refl _) | (focus (simp; done)) | (focus (simp; omega))))))).mono ?_
                  rintro e w6 ⟨rfl, hb6⟩
                  have r6 := bcell1 hb6
                  have l6_0 : w.heap.size < w6.heap.size := blt hb6 (by first | (simp; done) | (simp; omega) | omega)
                  have l6_1 : w.heap.size + 1 < w6.heap.size := blt hb6 (by first | (simp; done) | (simp; omega) | omega)
                  go_wp2_with (fail)
                  refine (c7 _ (Sl.below ha.limits.halves (by (repeat (first | (with_reducible exact Below.refl _ _) | (with_reducible assumption) | (with_reducible refine below_al ?_ _) | (with_reducible refine Below.drew ?_) | (with_reducible refine below_drewN ?_ _) | (with_reducible refine below_st ?_ ?_ _) | (with_reducible refine below_tr ?_ (by assumption)) | (with_reducible exact Nat.le_refl _) | (focus (simp; done)) | (focus (simp; omega)))))) (Sl.below hb.limits.halves (by (repeat (first | (with_reducible exact Below.refl _ _) | (with_reducible assumption) | (with_reducible refine below_al ?_ _) | (with_reducible refine Below.drew ?_) | (with_reducible refine below_drewN ?_ _) | (with_reducible refine below_st ?_ ?_ _) | (with_reducible refine below_tr ?_ (by assumption)) | (with_reducible exact Nat.le_refl _) | (focus (simp; done)) | (focus (simp; omega))))))).mono ?_
                  rintro e w7 ⟨rfl, hb7⟩
                  have r7 := bcell1 hb7
                  have l7_0 : w.heap.size < w7.heap.size := blt hb7 (by first | (simp; done) | (simp; omega) | omega)
                  have l7_1 : w.heap.size + 1 < w7.heap.size := blt hb7 (by first | (simp; done) | (simp; omega) | omega)
                  go_wp2
                  go_ret
                  refine ⟨ret_bool (by simp [sameRooms, e0, eq_of_bne e1, eq_of_bne e2, eq_of_bne e3, eq_of_bne e4, eq_of_bne e5, e6, e7]), ?_⟩
                  repeat (first | (with_reducible exact Below.refl _ _) | (with_reducible assumption) | (with_reducible refine below_al ?_ _) | (with_reducible refine Below.drew ?_) | (with_reducible refine below_drewN ?_ _) | (with_reducible refine below_st ?_ ?_ _) | (with_reducible refine below_tr ?_ (by assumption)) | (with_reducible exact Nat.le_refl _) | (focus (simp; done)) | (focus (simp; omega)))
                · skip
                  rw [e7] at c7
                  go_enter Try.func97, Try.ntmps97
                  go_wp2_with (fail)
                  refine (c0 _ (Sl.below ha.map (by (repeat (first | (with_reducible exact Below.refl _ _) | (with_reducible assumption) | (with_reducible refine below_al ?_ _) | (with_reducible refine Below.drew ?_) | (with_reducible refine below_drewN ?_ _) | (with_reducible refine below_st ?_ ?_ _) | (with_reducible refine below_tr ?_ (by assumption)) | (with_reducible exact Nat.le_refl _) | (focus (simp; done)) | (focus (simp; omega)))))) (Sl.below hb.map (by (repeat (first | (with_reducible exact Below.refl _ _) | (with_reducible assumption) | (with_reducible refine below_al ?_ _) | (with_reducible refine Below.drew ?_) | (with_reducible refine below_drewN ?_ _) | (with_reducible refine below_st ?_ ?_ _) | (with_reducible refine below_tr ?_ (by assumption)) | (with_reducible exact Nat.le_refl _) | (focus (simp; done)) | (focus (simp; omega))))))).mono ?_
                  rintro e w' ⟨rfl, nd0, rfl⟩
                  go_wp2_with (fail)
                  refine (c6 _ (Sl.below ha.noise.halves (by (repeat (first | (with_reducible exact Below.refl _ _) | (with_reducible assumption) | (with_reducible refine below_al ?_ _) | (with_reducible refine Below.drew ?_) | (with_reducible refine below_drewN ?_ _) | (with_reducible refine below_st ?_ ?_ _) | (with_reducible refine below_tr ?_ (by assumption)) | (with_reducible exact Nat.le_refl _) | (focus (simp; done)) | (focus (simp; omega)))))) (Sl.below hb.noise.halves (by (repeat (first | (with_reducible exact Below.refl _ _) | (with_reducible assumption) | (with_reducible refine below_al ?_ _) | (with_reducible refine Below.drew ?_) | (with_reducible refine below_drewN ?_ _) | (with_reducible refine below_st ?_ ?_ _) | (with_reducible refine below_tr ?_ (by assumption)) | (with_reducible exact Nat.le_refl _) | (focus (simp; done)) | (focus (simp; omega))))))).mono ?_
                  rintro e w6 ⟨rfl, hb6⟩
                  have r6 := bcell1 hb6
                  have l6_0 : w.heap.size < w6.heap.size := blt hb6 (by first | (simp; done) | (simp; omega) | omega)
                  have l6_1 : w.heap.size + 1 < w6.heap.size := blt hb6 (by first | (simp; done) | (simp; omega) | omega)
                  go_wp2_with (fail)
                  refine (c7 _ (Sl.below ha.limits.halves (by (repeat (first | (with_reducible exact Below.refl _ _) | (with_reducible assumption) | (with_reducible refine below_al ?_ _) | (with_reducible refine Below.drew ?_) | (with_reducible refine below_drewN ?_ _) | (with_reducible refine below_st ?_ ?_ _) | (with_reducible refine below_tr ?_ (by assumption)) | (with_reducible exact Nat.le_refl _) | (focus (simp; done)) | (focus (simp; omega)))))) (Sl.below hb.limits.halves (by (repeat (first | (with_reducible exact Below.refl _ _) | (with_reducible assumption) | (with_reducible refine below_al ?_ _) | (with_reducible refine Below.drew ?_) | (with_reducible refine below_drewN ?_ _) | (with_reducible refine below_st ?_ ?_ _) | (with_reducible refine below_tr ?_ (by assumption)) | (with_reducible exact Nat.le_refl _) | (focus (simp; done)) | (focus (simp; omega))))))).mono ?_
                  rintro e w7 ⟨rfl, hb7⟩
                  have r7 := bcell1 hb7
                  have l7_0 : w.heap.size < w7.heap.size := blt hb7 (by first | (simp; done) | (simp; omega) | omega)
                  have l7_1 : w.heap.size + 1 < w7.heap.size := blt hb7 (by first | (simp; done) | (simp; omega) | omega)
                  go_wp2
                  go_ret
                  refine ⟨ret_bool (by simp [sameRooms, e0, eq_of_bne e1, eq_of_bne e2, eq_of_bne e3, eq_of_bne e4, eq_of_bne e5, e6, e7]), ?_⟩
                  repeat (first | (with_reducible exact Below.refl _ _) | (with_reducible assumption) | (with_reducible refine below_al ?_ _) | (with_reducible refine Below.drew ?_) | (with_reducible refine below_drewN ?_ _) | (with_reducible refine below_st ?_ ?_ _) | (with_reducible refine below_tr ?_ (by assumption)) | (with_reducible exact Nat.le_refl _) | (focus (simp; done)) | (focus (simp; omega)))
            · skip
              go_enter Try.func97, Try.ntmps97
              go_wp2_with (fail)
              refine (c0 _ (Sl.below ha.map (by (repeat (first | (with_reducible exact Below.refl _ _) | (with_reducible assumption) | (with_reducible refine below_al ?_ _) | (with_reducible refine Below.drew ?_) | (with_reducible refine below_drewN ?_ _) | (with_reducible refine below_st ?_ ?_ _) | (with_reducible refine below_tr ?_ (by assumption)) | (with_reducible exact Nat.le_refl _) | (focus (simp; done)) | (focus (simp; omega)))))) (Sl.below hb.map (by (repeat (first | (with_reducible exact Below.refl _ _) | (with_reducible assumption) | (with_reducible refine below_al ?_ _) | (with_reducible refine Below.drew ?_) | (with_reducible refine below_drewN ?_ _) | (with_reducible refine below_st ?_ ?_ _) | (with_reducible refine below_tr ?_ (by assumption)) | (with_reducible exact Nat.le_refl _) | (focus (simp; done)) | (focus (simp; omega))))))).mono ?_
              rintro e w' ⟨rfl, nd0, rfl⟩
              go_wp2
              go_ret
              refine ⟨ret_bool (by simp [sameRooms, e0, eq_of_bne e1, eq_of_bne e2, eq_of_bne e3, eq_of_bne e4, ne_of_bne e5]), ?_⟩
              repeat (first | (with_reducible exact Below.refl _ _) | (with_reducible assumption) | (with_reducible refine below_al ?_ _) | (with_reducible refine Below.drew ?_) | (with_reducible refine below_drewN ?_ _) | (with_reducible refine below_st ?_ ?_ _) | (with_reducible refine below_tr ?_ (by assumption)) | (with_reducible exact Nat.le_refl _) | (focus (simp; done)) | (focus (simp; omega)))
          · skip
            go_enter Try.func97, Try.ntmps97
            go_wp2_with (fail)
            refine (c0 _ (Sl.below ha.map (by (repeat (first | (with_reducible exact Below.refl _ _) | (with_reducible assumption) | (with_reducible refine below_al ?_ _) | (with_reducible refine Below.drew ?_) | (with_reducible refine below_drewN ?_ _) | (with_reducible refine below_st ?_ ?_ _) | (with_reducible refine below_tr ?_ (by assumption)) | (with_reducible exact Nat.le_refl _) | (focus (simp; done)) | (focus (simp; omega)))))) (Sl.below hb.map (by (repeat (first | (with_reducible exact Below.refl _ _) | (with_reducible assumption) | (with_reducible refine below_al ?_ _) | (with_reducible refine Below.drew ?_) | (with_reducible refine below_drewN ?_ _) | (with_reducible refine below_st ?_ ?_ _) | (with_reducible refine below_tr ?_ (by assumption)) | (with_reducible exact Nat.le_refl _) | (focus (simp; done)) | (focus (simp; omega))))))).mono ?_
            rintro e w' ⟨rfl, nd0, rfl⟩
            go_wp2
            go_ret
            refine ⟨ret_bool (by simp [sameRooms, e0, eq_of_bne e1, eq_of_bne e2, eq_of_bne e3, ne_of_bne e4]), ?_⟩
            repeat (first | (with_reducible exact Below.refl _ _) | (with_reducible assumption) | (with_reducible refine below_al ?_ _) | (with_reducible refine Below.drew ?_) | (with_reducible refine below_drewN ?_ _) | (with_reducible refine below_st ?_ ?_ _) | (with_reducible refine below_tr ?_ (by assumption)) | (with_reducible exact Nat.le_refl _) | (focus (simp; done)) | (focus (simp; omega)))
        · skip
          go_enter Try.func97, Try.ntmps97
          go_wp2_with (fail)
          refine (c0 _ (Sl.below ha.map (by (repeat (first | (with_reducible exact Below.refl _ _) | (with_reducible assumption) | (with_reducible refine below_al ?_ _) | (with_reducible refine Below.drew ?_) | (with_reducible refine below_drewN ?_ _) | (with_reducible refine below_st ?_ ?_ _) | (with_reducible refine below_tr ?_ (by assumption)) | (with_reducible exact Nat.le_refl _) | (focus (simp; done)) | (focus (simp; omega)))))) (Sl.below hb.map (by (repeat (first | (with_reducible exact Below.refl _ _) | (with_reducible assumption) | (with_reducible refine below_al ?_ _) | (with_reducible refine Below.drew ?_) | (with_reducible refine below_drewN ?_ _) | (with_reducible refine below_st ?_ ?_ _) | (with_reducible refine below_tr ?_ (by assumption)) | (with_reducible exact Nat.le_refl _) | (focus (simp; done)) | (focus (simp; omega))))))).mono ?_
          rintro e w' ⟨rfl, nd0, rfl⟩
          go_wp2
          go_ret
          refine ⟨ret_bool (by simp [sameRooms, e0, eq_of_bne e1, eq_of_bne e2, ne_of_bne e3]), ?_⟩
          repeat (first | (with_reducible exact Below.refl _ _) | (with_reducible assumption) | (with_reducible refine below_al ?_ _) | (with_reducible refine Below.drew ?_) | (with_reducible refine below_drewN ?_ _) | (with_reducible refine below_st ?_ ?_ _) | (with_reducible refine below_tr ?_ (by assumption)) | (with_reducible exact Nat.le_refl _) | (focus (simp; done)) | (focus (simp; omega)))
      · skip
        go_enter Try.func97, Try.ntmps97
        go_wp2_with (fail)
        refine (c0 _ (Sl.below ha.map (by (repeat (first | (with_reducible exact Below.refl _ _) | (with_reducible assumption) | (with_reducible refine below_al ?_ _) | (with_reducible refine Below.drew ?_) | (with_reducible refine below_drewN ?_ _) | (with_reducible refine below_st ?_ ?_ _) | (with_reducible refine below_tr ?_ (by assumption)) | (with_reducible exact Nat.le_refl _) | (focus (simp; done)) | (focus (simp; omega)))))) (Sl.below hb.map (by (repeat (first | (with_reducible exact Below.refl _ _) | (with_reducible assumption) | (with_reducible refine below_al ?_ _) | (with_reducible refine Below.drew ?_) | (with_reducible refine below_drewN ?_ _) | (with_reducible refine below_st ?_ ?_ _) | (with_reducible refine below_tr ?_ (by assumption)) | (with_reducible exact Nat.le_refl _) | (focus (simp; done)) | (focus (simp; omega))))))).mono ?_
        rintro e w' ⟨rfl, nd0, rfl⟩
        go_wp2
        go_ret
        refine ⟨ret_bool (by simp [sameRooms, e0, eq_of_bne e1, ne_of_bne e2]), ?_⟩
        repeat (first | (with_reducible exact Below.refl _ _) | (with_reducible assumption) | (with_reducible refine below_al ?_ _) | (with_reducible refine Below.drew ?_) | (with_reducible refine below_drewN ?_ _) | (with_reducible refine below_st ?_ ?_ _) | (with_reducible refine below_tr ?_ (by assumption)) | (with_reducible exact Nat.le_refl _) | (focus (simp; done)) | (focus (simp; omega)))
    · skip
      go_enter Try.func97, Try.ntmps97
      go_wp2_with (fail)
      refine (c0 _ (Sl.below ha.map (by (repeat (first | (with_reducible exact Below.refl _ _) | (with_reducible assumption) | (with_reducible refine below_al ?_ _) | (with_reducible refine Below.drew ?_) | (with_reducible refine below_drewN ?_ _) | (with_reducible refine below_st ?_ ?_ _) | (with_reducible refine below_tr ?_ (by assumption)) | (with_reducible exact Nat.le_refl _) | (focus (simp; done)) | (focus (simp; omega)))))) (Sl.below hb.map (by (repeat (first | (with_reducible exact Below.refl _ _) | (with_reducible assumption) | (with_reducible refine below_al ?_ _) | (with_reducible refine Below.drew ?_) | (with_reducible refine below_drewN ?_ _) | (with_reducible refine below_st ?_ ?_ _) | (with_reducible refine below_tr ?_ (by assumption)) | (with_reducible exact Nat.le_refl _) | (focus (simp; done)) | (focus (simp; omega))))))).mono ?_
      rintro e w' ⟨rfl, nd0, rfl⟩
      go_wp2
      go_ret
      refine ⟨ret_bool (by simp [sameRooms, e0, ne_of_bne e1]), ?_⟩
      repeat (first | (with_reducible exact Below.refl _ _) | (with_reducible assumption) | (with_reducible refine below_al ?_ _) | (with_reducible refine Below.drew ?_) | (with_reducible refine below_drewN ?_ _) | (with_reducible refine below_st ?_ ?_ _) | (with_reducible refine below_tr ?_ (by assumption)) | (with_reducible exact Nat.le_refl _) | (focus (simp; done)) | (focus (simp; omega)))
set_option maxRecDepth 100000 in
set_option maxHeartbeats 2000000 in
theorem iSameWatch_c (x y : Watch) (a b : WatchA) (w : World) (hx : watchLen x ≤ 1048576) (hy : watchLen y ≤ 1048576) (ha : WatchSl w x a) (hb : WatchSl w y b) :
    Calls Try.prog 43 #[watchV x a, watchV y b] w fun e w' => e = .returned (.bool (sameWatch x y)) ∧ Below w.heap.size w w' := by
  simp only [watchLen] at hx hy
  have c0 := fun W h1 h2 => iSameRooms_c x.room y.room a.room b.room W (by simp only [roomLen]; omega) (by simp only [roomLen]; omega) h1 h2
  have c1 := fun W h1 h2 => iSameRegion_c x.reg y.reg a.reg b.reg W (by omega) (by omega) h1 h2
  have c2 := fun W h1 h2 => eqInts_q a.log.A b.log.A x.log y.log a.log.c b.log.c W (by omega) (by omega) h1 h2
  cases e0 : sameRooms x.room y.room
  · skip
    rw [e0] at c0
    go_enter Try.func43, Try.ntmps43
    go_wp2_with (fail)
    refine (c0 _ (RoomSl.below ha.room (by (repeat (first | (with_reducible exact Below.refl _ _) | (with_reducible assumption) | (with_reducible refine below_al ?_ _) | (with_reducible refine Below.drew ?_) | (with_reducible refine below_drewN ?_ _) | (with_reducible refine below_st ?_ ?_ _) | (with_reducible refine below_tr ?_ (by assumption)) | (with_reducible exact Nat.le_refl _) | (focus (simp; done)) | (focus (simp; omega)))))) (RoomSl.below hb.room (by (repeat (first | (with_reducible exact Below.refl _ _) | (with_reducible assumption) | (with_reducible refine below_al ?_ _) | (with_reducible refine Below.drew ?_) | (with_reducible refine below_drewN ?_ _) | (with_reducible refine below_st ?_ ?_ _) | (with_reducible refine below_tr ?_ (by assumption)) | (with_reducible exact Nat.le_refl _) | (focus (simp; done)) | (focus (simp; omega))))))).mono ?_
    rintro e w0 ⟨rfl, hb0⟩
    have r0 := bcell1 hb0
    have l0_0 : w.heap.size < w0.heap.size := blt hb0 (by first | (simp; done) | (simp; omega) | omega)
    have l0_1 : w.heap.size + 1 < w0.heap.size := blt hb0 (by first | (simp; done) | (simp; omega) | omega)
    go_wp2
    go_ret
    refine ⟨ret_bool (by simp [sameWatch, e0]), ?_⟩
    repeat (first | (with_reducible exact Below.refl _ _) | (with_reducible assumption) | (with_reducible refine below_al ?_ _) | (with_reducible refine Below.drew ?_) | (with_reducible refine below_drewN ?_ _) | (with_reducible refine below_st ?_ ?_ _) | (with_reducible refine below_tr ?_ (by assumption)) | (with_reducible exact Nat.le_refl _) | (focus (simp; done)) | (focus (simp; omega)))
  · skip
    rw [e0] at c0
    cases e1 : eqB x.reg y.reg
    · skip
      rw [e1] at c1
      go_enter Try.func43, Try.ntmps43
      go_wp2_with (fail)
      refine (c0 _ (RoomSl.below ha.room (by (repeat (first | (with_reducible exact Below.refl _ _) | (with_reducible assumption) | (with_reducible refine below_al ?_ _) | (with_reducible refine Below.drew ?_) | (with_reducible refine below_drewN ?_ _) | (with_reducible refine below_st ?_ ?_ _) | (with_reducible refine below_tr ?_ (by assumption)) | (with_reducible exact Nat.le_refl _) | (focus (simp; done)) | (focus (simp; omega)))))) (RoomSl.below hb.room (by (repeat (first | (with_reducible exact Below.refl _ _) | (with_reducible assumption) | (with_reducible refine below_al ?_ _) | (with_reducible refine Below.drew ?_) | (with_reducible refine below_drewN ?_ _) | (with_reducible refine below_st ?_ ?_ _) | (with_reducible refine below_tr ?_ (by assumption)) | (with_reducible exact Nat.le_refl _) | (focus (simp; done)) | (focus (simp; omega))))))).mono ?_
      rintro e w0 ⟨rfl, hb0⟩
      have r0 := bcell1 hb0
      have l0_0 : w.heap.size < w0.heap.size := blt hb0 (by first | (simp; done) | (simp; omega) | omega)
      have l0_1 : w.heap.size + 1 < w0.heap.size := blt hb0 (by first | (simp; done) | (simp; omega) | omega)
      go_wp2_with (fail)
      refine (c1 _ (Sl.below ha.reg.halves (by (repeat (first | (with_reducible exact Below.refl _ _) | (with_reducible assumption) | (with_reducible refine below_al ?_ _) | (with_reducible refine Below.drew ?_) | (with_reducible refine below_drewN ?_ _) | (with_reducible refine below_st ?_ ?_ _) | (with_reducible refine below_tr ?_ (by assumption)) | (with_reducible exact Nat.le_refl _) | (focus (simp; done)) | (focus (simp; omega)))))) (Sl.below hb.reg.halves (by (repeat (first | (with_reducible exact Below.refl _ _) | (with_reducible assumption) | (with_reducible refine below_al ?_ _) | (with_reducible refine Below.drew ?_) | (with_reducible refine below_drewN ?_ _) | (with_reducible refine below_st ?_ ?_ _) | (with_reducible refine below_tr ?_ (by assumption)) | (with_reducible exact Nat.le_refl _) | (focus (simp; done)) | (focus (simp; omega))))))).mono ?_
      rintro e w1 ⟨rfl, hb1⟩
      have r1 := bcell1 hb1
      have l1_0 : w.heap.size < w1.heap.size := blt hb1 (by first | (simp; done) | (simp; omega) | omega)
      have l1_1 : w.heap.size + 1 < w1.heap.size := blt hb1 (by first | (simp; done) | (simp; omega) | omega)
      go_wp2
      go_ret
      refine ⟨ret_bool (by simp [sameWatch, e0, e1]), ?_⟩
      repeat (first | (with_reducible exact Below.refl _ _) | (with_reducible assumption) | (with_reducible refine below_al ?_ _) | (with_reducible refine Below.drew ?_) | (with_reducible refine below_drewN ?_ _) | (with_reducible refine below_st ?_ ?_ _) | (with_reducible refine below_tr ?_ (by assumption)) | (with_reducible exact Nat.le_refl _) | (focus (simp; done)) | (focus (simp; omega)))
    · skip
      rw [e1] at c1
      cases e2 : eqB x.log y.log
      · skip
        rw [e2] at c2
        go_enter Try.func43, Try.ntmps43
        go_wp2_with (fail)
        refine (c0 _ (RoomSl.below ha.room (by (repeat (first | (with_reducible exact Below.refl _ _) | (with_reducible assumption) | (with_reducible refine below_al ?_ _) | (with_reducible refine Below.drew ?_) | (with_reducible refine below_drewN ?_ _) | (with_reducible refine below_st ?_ ?_ _) | (with_reducible refine below_tr ?_ (by assumption)) | (with_reducible exact Nat.le_refl _) | (focus (simp; done)) | (focus (simp; omega)))))) (RoomSl.below hb.room (by (repeat (first | (with_reducible exact Below.refl _ _) | (with_reducible assumption) | (with_reducible refine below_al ?_ _) | (with_reducible refine Below.drew ?_) | (with_reducible refine below_drewN ?_ _) | (with_reducible refine below_st ?_ ?_ _) | (with_reducible refine below_tr ?_ (by assumption)) | (with_reducible exact Nat.le_refl _) | (focus (simp; done)) | (focus (simp; omega))))))).mono ?_
        rintro e w0 ⟨rfl, hb0⟩
        have r0 := bcell1 hb0
        have l0_0 : w.heap.size < w0.heap.size := blt hb0 (by first | (simp; done) | (simp; omega) | omega)
        have l0_1 : w.heap.size + 1 < w0.heap.size := blt hb0 (by first | (simp; done) | (simp; omega) | omega)
        go_wp2_with (fail)
        refine (c1 _ (Sl.below ha.reg.halves (by (repeat (first | (with_reducible exact Below.refl _ _) | (with_reducible assumption) | (with_reducible refine below_al ?_ _) | (with_reducible refine Below.drew ?_) | (with_reducible refine below_drewN ?_ _) | (with_reducible refine below_st ?_ ?_ _) | (with_reducible refine below_tr ?_ (by assumption)) | (with_reducible exact Nat.le_refl _) | (focus (simp; done)) | (focus (simp; omega)))))) (Sl.below hb.reg.halves (by (repeat (first | (with_reducible exact Below.refl _ _) | (with_reducible assumption) | (with_reducible refine below_al ?_ _) | (with_reducible refine Below.drew ?_) | (with_reducible refine below_drewN ?_ _) | (with_reducible refine below_st ?_ ?_ _) | (with_reducible refine below_tr ?_ (by assumption)) | (with_reducible exact Nat.le_refl _) | (focus (simp; done)) | (focus (simp; omega))))))).mono ?_
        rintro e w1 ⟨rfl, hb1⟩
        have r1 := bcell1 hb1
        have l1_0 : w.heap.size < w1.heap.size := blt hb1 (by first | (simp; done) | (simp; omega) | omega)
        have l1_1 : w.heap.size + 1 < w1.heap.size := blt hb1 (by first | (simp; done) | (simp; omega) | omega)
        go_wp2_with (fail)
        refine (c2 _ (Sl.below ha.log (by (repeat (first | (with_reducible exact Below.refl _ _) | (with_reducible assumption) | (with_reducible refine below_al ?_ _) | (with_reducible refine Below.drew ?_) | (with_reducible refine below_drewN ?_ _) | (with_reducible refine below_st ?_ ?_ _) | (with_reducible refine below_tr ?_ (by assumption)) | (with_reducible exact Nat.le_refl _) | (focus (simp; done)) | (focus (simp; omega)))))) (Sl.below hb.log (by (repeat (first | (with_reducible exact Below.refl _ _) | (with_reducible assumption) | (with_reducible refine below_al ?_ _) | (with_reducible refine Below.drew ?_) | (with_reducible refine below_drewN ?_ _) | (with_reducible refine below_st ?_ ?_ _) | (with_reducible refine below_tr ?_ (by assumption)) | (with_reducible exact Nat.le_refl _) | (focus (simp; done)) | (focus (simp; omega))))))).mono ?_
        rintro e w' ⟨rfl, nd2, rfl⟩
        go_wp2
        go_ret
        refine ⟨ret_bool (by simp [sameWatch, e0, e1, e2]), ?_⟩
        repeat (first | (with_reducible exact Below.refl _ _) | (with_reducible assumption) | (with_reducible refine below_al ?_ _) | (with_reducible refine Below.drew ?_) | (with_reducible refine below_drewN ?_ _) | (with_reducible refine below_st ?_ ?_ _) | (with_reducible refine below_tr ?_ (by assumption)) | (with_reducible exact Nat.le_refl _) | (focus (simp; done)) | (focus (simp; omega)))
      · skip
        rw [e2] at c2
        go_enter Try.func43, Try.ntmps43
        go_wp2_with (fail)
        refine (c0 _ (RoomSl.below ha.room (by (repeat (first | (with_reducible exact Below.refl _ _) | (with_reducible assumption) | (with_reducible refine below_al ?_ _) | (with_reducible refine Below.drew ?_) | (with_reducible refine below_drewN ?_ _) | (with_reducible refine below_st ?_ ?_ _) | (with_reducible refine below_tr ?_ (by assumption)) | (with_reducible exact Nat.le_refl _) | (focus (simp; done)) | (focus (simp; omega)))))) (RoomSl.below hb.room (by (repeat (first | (with_reducible exact Below.refl _ _) | (with_reducible assumption) | (with_reducible refine below_al ?_ _) | (with_reducible refine Below.drew ?_) | (with_reducible refine below_drewN ?_ _) | (with_reducible refine below_st ?_ ?_ _) | (with_reducible refine below_tr ?_ (by assumption)) | (with_reducible exact Nat.le_refl _) | (focus (simp; done)) | (focus (simp; omega))))))).mono ?_
        rintro e w0 ⟨rfl, hb0⟩
        have r0 := bcell1 hb0
        have l0_0 : w.heap.size < w0.heap.size := blt hb0 (by first | (simp; done) | (simp; omega) | omega)
        have l0_1 : w.heap.size + 1 < w0.heap.size := blt hb0 (by first | (simp; done) | (simp; omega) | omega)
        go_wp2_with (fail)
        refine (c1 _ (Sl.below ha.reg.halves (by (repeat (first | (with_reducible exact Below.refl _ _) | (with_reducible assumption) | (with_reducible refine below_al ?_ _) | (with_reducible refine Below.drew ?_) | (with_reducible refine below_drewN ?_ _) | (with_reducible refine below_st ?_ ?_ _) | (with_reducible refine below_tr ?_ (by assumption)) | (with_reducible exact Nat.le_refl _) | (focus (simp; done)) | (focus (simp; omega)))))) (Sl.below hb.reg.halves (by (repeat (first | (with_reducible exact Below.refl _ _) | (with_reducible assumption) | (with_reducible refine below_al ?_ _) | (with_reducible refine Below.drew ?_) | (with_reducible refine below_drewN ?_ _) | (with_reducible refine below_st ?_ ?_ _) | (with_reducible refine below_tr ?_ (by assumption)) | (with_reducible exact Nat.le_refl _) | (focus (simp; done)) | (focus (simp; omega))))))).mono ?_
        rintro e w1 ⟨rfl, hb1⟩
        have r1 := bcell1 hb1
        have l1_0 : w.heap.size < w1.heap.size := blt hb1 (by first | (simp; done) | (simp; omega) | omega)
        have l1_1 : w.heap.size + 1 < w1.heap.size := blt hb1 (by first | (simp; done) | (simp; omega) | omega)
        go_wp2_with (fail)
        refine (c2 _ (Sl.below ha.log (by (repeat (first | (with_reducible exact Below.refl _ _) | (with_reducible assumption) | (with_reducible refine below_al ?_ _) | (with_reducible refine Below.drew ?_) | (with_reducible refine below_drewN ?_ _) | (with_reducible refine below_st ?_ ?_ _) | (with_reducible refine below_tr ?_ (by assumption)) | (with_reducible exact Nat.le_refl _) | (focus (simp; done)) | (focus (simp; omega)))))) (Sl.below hb.log (by (repeat (first | (with_reducible exact Below.refl _ _) | (with_reducible assumption) | (with_reducible refine below_al ?_ _) | (with_reducible refine Below.drew ?_) | (with_reducible refine below_drewN ?_ _) | (with_reducible refine below_st ?_ ?_ _) | (with_reducible refine below_tr ?_ (by assumption)) | (with_reducible exact Nat.le_refl _) | (focus (simp; done)) | (focus (simp; omega))))))).mono ?_
        rintro e w' ⟨rfl, nd2, rfl⟩
        go_wp2
        go_ret
        refine ⟨ret_bool (by simp [sameWatch, e0, e1, e2]), ?_⟩
        repeat (first | (with_reducible exact Below.refl _ _) | (with_reducible assumption) | (with_reducible refine below_al ?_ _) | (with_reducible refine Below.drew ?_) | (with_reducible refine below_drewN ?_ _) | (with_reducible refine below_st ?_ ?_ _) | (with_reducible refine below_tr ?_ (by assumption)) | (with_reducible exact Nat.le_refl _) | (focus (simp; done)) | (focus (simp; omega)))
set_option maxRecDepth 100000 in
set_option maxHeartbeats 2000000 in
theorem sSameRegion_c (p q : List Half) (a b : SlA) (w : World) (hp : p.length ≤ 1048576) (_ : q.length ≤ 1048576) (ha : Sl 3 halfC w a.A p) (hb : Sl 3 halfC w b.A q) :
    Calls Try.prog 96 #[regionV p a, regionV q b] w fun e w' => e = .returned (.bool (eqB p q)) ∧ Below w.heap.size w w' := by
  obtain ⟨A, ca⟩ := a
  obtain ⟨B, cb⟩ := b
  by_cases hl : p.length = q.length
  · have hfin := Lib.hid (fun h => Lib.hid (eqB_yes (xs := p) (ys := q) hl h))
    have hno := Lib.hid (fun k h1 h2 h => Lib.hid (@eqB_no Half _ p q k h1 h2 h))
    have HL := Lib.hid hl
    have i0 : (((p.length : Nat) : Int) != ((q.length : Nat) : Int)) = false := by simp [hl]
    clear hl
    go_enter Try.func96, Try.ntmps96
    go_wp2
    go_loopw [5, 6, 17] (fun _ _ i wr => ∃ k : Nat, k ≤ p.length ∧ i = .int .i64 k ∧ Hid (p.take k = q.take k) ∧ Below ((w.alloc (.cells #[.slice A p.length ca] 53)).alloc (.cells #[.slice B q.length cb] 53)).heap.size ((w.alloc (.cells #[.slice A p.length ca] 53)).alloc (.cells #[.slice B q.length cb] 53)) wr) (fun _ _ i _ => p.length - (intOf i).toNat)
    case atStart => exact ⟨0, Nat.zero_le _, rfl, by simp [Hid], Below.refl _ _⟩
    case round =>
      obtain ⟨k, hk, rfl, htk, hbw⟩ := hrel
      have r0 := bcell1 hbw
      have l0 : w.heap.size < wr.heap.size := blt hbw (by first | (simp; done) | (simp; omega) | omega)
      have l1 : w.heap.size + 1 < wr.heap.size := blt hbw (by first | (simp; done) | (simp; omega) | omega)
      by_cases hlt : k < p.length
      · have hlt2 : k < q.length := by have := HL.out; omega
        obtain ⟨b, off, rfl, hblt, hc⟩ := (Sl.below ha (by (repeat (first | (with_reducible exact Below.refl _ _) | (with_reducible assumption) | (with_reducible refine below_al ?_ _) | (with_reducible refine Below.drew ?_) | (with_reducible refine below_drewN ?_ _) | (with_reducible refine below_st ?_ ?_ _) | (with_reducible refine below_tr ?_ (by assumption)) | (with_reducible exact Nat.le_refl _) | (focus (simp; done)) | (focus (simp; omega)))) : Below w.heap.size w wr)).at_ hlt
        obtain ⟨b', off', rfl, hblt', hc'⟩ := (Sl.below hb (by (repeat (first | (with_reducible exact Below.refl _ _) | (with_reducible assumption) | (with_reducible refine below_al ?_ _) | (with_reducible refine Below.drew ?_) | (with_reducible refine below_drewN ?_ _) | (with_reducible refine below_st ?_ ?_ _) | (with_reducible refine below_tr ?_ (by assumption)) | (with_reducible exact Nat.le_refl _) | (focus (simp; done)) | (focus (simp; omega)))) : Below w.heap.size w wr)).at_ hlt2
        have g0 := hc 0 _ rfl
        have g1 := hc 1 _ rfl
        have g2 := hc 2 _ rfl
        have g3 := hc' 0 _ rfl
        have g4 := hc' 1 _ rfl
        have g5 := hc' 2 _ rfl
        clear hc hc'
        simp only [Nat.add_zero] at g0 g3
        have i1 : (0 : Int) ≤ (k : Int) := by omega
        have i2 : (k : Int) < (p.length : Int) := by omega
        have i3 : (k : Int) < (q.length : Int) := by omega
        by_cases he : p[k] = q[k]
        · have hst := Lib.hid (take_step hlt hlt2 htk.out he)
          rw [← he] at g3 g4 g5
          generalize p[k] = x at *
          clear he htk
          go_wp2
          go_quiet (fail)
          go_wp2
          go_roundw
          case rel =>
            refine ⟨k + 1, by omega, by go_num, hst, ?_⟩
            repeat (first | (with_reducible exact Below.refl _ _) | (with_reducible assumption) | (with_reducible refine below_al ?_ _) | (with_reducible refine Below.drew ?_) | (with_reducible refine below_drewN ?_ _) | (with_reducible refine below_st ?_ ?_ _) | (with_reducible refine below_tr ?_ (by assumption)) | (with_reducible exact Nat.le_refl _) | (focus (simp; done)) | (focus (simp; omega)))
          case measure => simp [intOf]; omega
        · have hst := hno.out k hlt hlt2 he
          have q1 := half_ne he
          generalize p[k] = x at *
          generalize q[k] = x' at *
          clear he htk
          obtain ⟨a1, b1, c1⟩ := x
          obtain ⟨a2, b2, c2⟩ := x'
          simp only at q1 g0 g1 g2 g3 g4 g5
          rcases q1 with q1 | ⟨rfl, q1⟩ | ⟨rfl, rfl, q1⟩
          all_goals
            go_wp2
            go_quiet (fail)
            go_wp2
            refine bodyPost_ret (v := .bool false) (by simp [results, Try.results96, go_sem]) rfl ⟨by rw [hst.out], ?_⟩
            repeat (first | (with_reducible exact Below.refl _ _) | (with_reducible assumption) | (with_reducible refine below_al ?_ _) | (with_reducible refine Below.drew ?_) | (with_reducible refine below_drewN ?_ _) | (with_reducible refine below_st ?_ ?_ _) | (with_reducible refine below_tr ?_ (by assumption)) | (with_reducible exact Nat.le_refl _) | (focus (simp; done)) | (focus (simp; omega)))
      · obtain rfl : k = p.length := by omega
        have hst := hfin.out htk.out
        clear htk
        go_wp2
        go_ret
        refine ⟨ret_bool hst.out.symm, ?_⟩
        repeat (first | (with_reducible exact Below.refl _ _) | (with_reducible assumption) | (with_reducible refine below_al ?_ _) | (with_reducible refine Below.drew ?_) | (with_reducible refine below_drewN ?_ _) | (with_reducible refine below_st ?_ ?_ _) | (with_reducible refine below_tr ?_ (by assumption)) | (with_reducible exact Nat.le_refl _) | (focus (simp; done)) | (focus (simp; omega)))
  · have hst := Lib.hid (eqB_len hl)
    have i0 : (((p.length : Nat) : Int) != ((q.length : Nat) : Int)) = true := by simp; omega
    go_enter Try.func96, Try.ntmps96
    go_wp2
    go_ret
    refine ⟨ret_bool hst.out.symm, ?_⟩
    repeat (first | (with_reducible exact Below.refl _ _) | (with_reducible assumption) | (with_reducible refine below_al ?_ _) | (with_reducible refine Below.drew ?_) | (with_reducible refine below_drewN ?_ _) | (with_reducible refine below_st ?_ ?_ _) | (with_reducible refine below_tr ?_ (by assumption)) | (with_reducible exact Nat.le_refl _) | (focus (simp; done)) | (focus (simp; omega)))
set_option maxRecDepth 100000 in
set_option maxHeartbeats 4000000 in
theorem sSameRooms_c (x y : Room) (a b : RoomA) (w : World) (hx : roomLen x ≤ 1048576) (hy : roomLen y ≤ 1048576) (ha : RoomSl w x a) (hb : RoomSl w y b) :
    Calls Try.prog 95 #[roomV x a, roomV y b] w fun e w' => e = .returned (.bool (sameRooms x y)) ∧ Below w.heap.size w w' := by
  simp only [roomLen] at hx hy
  obtain ⟨⟨am, mc⟩, an, al⟩ := a
  obtain ⟨⟨bm, md⟩, bn, bl⟩ := b
  obtain ⟨ha1, ha2, ha3⟩ := ha
  obtain ⟨hb1, hb2, hb3⟩ := hb
  dsimp only at ha1 ha2 ha3 hb1 hb2 hb3
  have c6 := fun W h1 h2 => sSameRegion_c x.noise y.noise an bn W (by omega) (by omega) h1 h2
  have c7 := fun W h1 h2 => sSameRegion_c x.limits y.limits al bl W (by omega) (by omega) h1 h2
  cases e0 : (((List.length x.map : Nat) : Int) != ((List.length y.map : Nat) : Int))
  · skip
    cases e1 : (x.div != y.div)
    · skip
      cases e2 : (x.bx != y.bx)
      · skip
        cases e3 : (x.by_ != y.by_)
        · skip
          cases e4 : (x.low != y.low)
          · skip
            cases e5 : (x.high != y.high)
            · skip
              have HL := Lib.hid (lene e0)
              have hfin := Lib.hid (fun h => Lib.hid (eqB_yes (xs := x.map) (ys := y.map) (lene e0) h))
              have hno := Lib.hid (fun k h1 h2 h => Lib.hid (@eqB_no Int _ x.map y.map k h1 h2 h))
              cases hsame : eqB x.map y.map
              · have hval := Lib.hid (show sameRooms x y = false by simp [sameRooms, hsame])
                go_enter Try.func95, Try.ntmps95
                go_wp2
                go_loopw [5, 6, 52] (fun _ _ i wr => ∃ k : Nat, k ≤ List.length x.map ∧ i = .int .i64 k ∧ Hid (List.take k x.map = List.take k y.map) ∧ Below ((w.alloc (.cells #[.slice am (List.length x.map) mc, .int .i64 x.div, .int .i64 x.bx, .int .i64 x.by_, .int .i64 x.low, .int .i64 x.high, .slice an.A (List.length x.noise) an.c, .slice al.A (List.length x.limits) al.c] 55)).alloc (.cells #[.slice bm (List.length y.map) md, .int .i64 y.div, .int .i64 y.bx, .int .i64 y.by_, .int .i64 y.low, .int .i64 y.high, .slice bn.A (List.length y.noise) bn.c, .slice bl.A (List.length y.limits) bl.c] 55)).heap.size ((w.alloc (.cells #[.slice am (List.length x.map) mc, .int .i64 x.div, .int .i64 x.bx, .int .i64 x.by_, .int .i64 x.low, .int .i64 x.high, .slice an.A (List.length x.noise) an.c, .slice al.A (List.length x.limits) al.c] 55)).alloc (.cells #[.slice bm (List.length y.map) md, .int .i64 y.div, .int .i64 y.bx, .int .i64 y.by_, .int .i64 y.low, .int .i64 y.high, .slice bn.A (List.length y.noise) bn.c, .slice bl.A (List.length y.limits) bl.c] 55)) wr) (fun _ _ i _ => List.length x.map - (intOf i).toNat)
                case atStart => exact ⟨0, Nat.zero_le _, rfl, by simp [Hid], Below.refl _ _⟩
                case round =>
                  obtain ⟨k, hk, rfl, htk, hbw⟩ := hrel
                  have r0 := bcell1 hbw
                  have l0 : w.heap.size < wr.heap.size := blt hbw (by first | (simp; done) | (simp; omega) | omega)
                  have l1 : w.heap.size + 1 < wr.heap.size := blt hbw (by first | (simp; done) | (simp; omega) | omega)
                  by_cases hlt : k < List.length x.map
                  · have hlt2 : k < List.length y.map := by have := HL.out; omega
                    obtain ⟨b, off, rfl, hblt, hc⟩ := (Sl.below ha1 (by (repeat (first | (with_reducible exact Below.refl _ _) | (with_reducible assumption) | (with_reducible refine below_al ?_ _) | (with_reducible refine Below.drew ?_) | (with_reducible refine below_drewN ?_ _) | (with_reducible refine below_st ?_ ?_ _) | (with_reducible refine below_tr ?_ (by assumption)) | (with_reducible exact Nat.le_refl _) | (focus (simp; done)) | (focus (simp; omega)))) : Below w.heap.size w wr)).at_ hlt
                    obtain ⟨b', off', rfl, hblt', hc'⟩ := (Sl.below hb1 (by (repeat (first | (with_reducible exact Below.refl _ _) | (with_reducible assumption) | (with_reducible refine below_al ?_ _) | (with_reducible refine Below.drew ?_) | (with_reducible refine below_drewN ?_ _) | (with_reducible refine below_st ?_ ?_ _) | (with_reducible refine below_tr ?_ (by assumption)) | (with_reducible exact Nat.le_refl _) | (focus (simp; done)) | (focus (simp; omega)))) : Below w.heap.size w wr)).at_ hlt2
                    have g0 := hc 0 _ rfl
                    have g1 := hc' 0 _ rfl
                    clear hc hc'
                    simp only [Nat.mul_one, Nat.add_zero] at g0 g1
                    have i1 : (0 : Int) ≤ (k : Int) := by omega
                    have i2 : (k : Int) < (List.length x.map : Int) := by omega
                    have i3 : (k : Int) < (List.length y.map : Int) := by omega
                    by_cases he : x.map[k] = y.map[k]
                    · have hst := Lib.hid (take_step hlt hlt2 htk.out he)
                      have q1 : (x.map[k] != y.map[k]) = false := by simp [he]
                      clear he htk
                      go_wp2
                      go_roundw
                      case rel => exact ⟨k + 1, by omega, by go_num, hst, hbw⟩
                      case measure => simp [intOf]; omega
                    · have q1 : (x.map[k] != y.map[k]) = true := by simp [he]
                      clear he htk
                      go_wp2
                      go_ret
                      refine ⟨ret_bool hval.out.symm, ?_⟩
                      repeat (first | (with_reducible exact Below.refl _ _) | (with_reducible assumption) | (with_reducible refine below_al ?_ _) | (with_reducible refine Below.drew ?_) | (with_reducible refine below_drewN ?_ _) | (with_reducible refine below_st ?_ ?_ _) | (with_reducible refine below_tr ?_ (by assumption)) | (with_reducible exact Nat.le_refl _) | (focus (simp; done)) | (focus (simp; omega)))
                  · obtain rfl : k = List.length x.map := by omega
                    have := hfin.out htk.out
                    rw [this.out] at hsame
                    cases hsame
              · cases e6 : eqB x.noise y.noise
                · rw [e6] at c6
                  have hval := Lib.hid (show sameRooms x y = false by simp [sameRooms, e6])
                  go_enter Try.func95, Try.ntmps95
                  go_wp2
                  go_loopw [5, 6, 52] (fun _ _ i wr => ∃ k : Nat, k ≤ List.length x.map ∧ i = .int .i64 k ∧ Hid (List.take k x.map = List.take k y.map) ∧ Below ((w.alloc (.cells #[.slice am (List.length x.map) mc, .int .i64 x.div, .int .i64 x.bx, .int .i64 x.by_, .int .i64 x.low, .int .i64 x.high, .slice an.A (List.length x.noise) an.c, .slice al.A (List.length x.limits) al.c] 55)).alloc (.cells #[.slice bm (List.length y.map) md, .int .i64 y.div, .int .i64 y.bx, .int .i64 y.by_, .int .i64 y.low, .int .i64 y.high, .slice bn.A (List.length y.noise) bn.c, .slice bl.A (List.length y.limits) bl.c] 55)).heap.size ((w.alloc (.cells #[.slice am (List.length x.map) mc, .int .i64 x.div, .int .i64 x.bx, .int .i64 x.by_, .int .i64 x.low, .int .i64 x.high, .slice an.A (List.length x.noise) an.c, .slice al.A (List.length x.limits) al.c] 55)).alloc (.cells #[.slice bm (List.length y.map) md, .int .i64 y.div, .int .i64 y.bx, .int .i64 y.by_, .int .i64 y.low, .int .i64 y.high, .slice bn.A (List.length y.noise) bn.c, .slice bl.A (List.length y.limits) bl.c] 55)) wr) (fun _ _ i _ => List.length x.map - (intOf i).toNat)
                  case atStart => exact ⟨0, Nat.zero_le _, rfl, by simp [Hid], Below.refl _ _⟩
                  case round =>
                    obtain ⟨k, hk, rfl, htk, hbw⟩ := hrel
                    have r0 := bcell1 hbw
                    have l0 : w.heap.size < wr.heap.size := blt hbw (by first | (simp; done) | (simp; omega) | omega)
                    have l1 : w.heap.size + 1 < wr.heap.size := blt hbw (by first | (simp; done) | (simp; omega) | omega)
                    by_cases hlt : k < List.length x.map
                    · have hlt2 : k < List.length y.map := by have := HL.out; omega
                      obtain ⟨b, off, rfl, hblt, hc⟩ := (Sl.below ha1 (by (repeat (first | (with_reducible exact Below.refl _ _) | (with_reducible assumption) | (with_reducible refine below_al ?_ _) | (with_reducible refine Below.drew ?_) | (with_reducible refine below_drewN ?_ _) | (with_reducible refine below_st ?_ ?_ _) | (with_reducible refine below_tr ?_ (by assumption)) | (with_reducible exact Nat.le_refl _) | (focus (simp; done)) | (focus (simp; omega)))) : Below w.heap.size w wr)).at_ hlt
                      obtain ⟨b', off', rfl, hblt', hc'⟩ := (Sl.below hb1 (by (repeat (first | (with_reducible exact Below.refl _ _) | (with_reducible assumption) | (with_reducible refine below_al ?_ _) | (with_reducible refine Below.drew ?_) | (with_reducible refine below_drewN ?_ _) | (with_reducible refine below_st ?_ ?_ _) | (with_reducible refine below_tr ?_ (by assumption)) | (with_reducible exact Nat.le_refl _) | (focus (simp; done)) | (focus (simp; omega)))) : Below w.heap.size w wr)).at_ hlt2
                      have g0 := hc 0 _ rfl
                      have g1 := hc' 0 _ rfl
                      clear hc hc'
                      simp only [Nat.mul_one, Nat.add_zero] at g0 g1
                      have i1 : (0 : Int) ≤ (k : Int) := by omega
                      have i2 : (k : Int) < (List.length x.map : Int) := by omega
                      have i3 : (k : Int) < (List.length y.map : Int) := by omega
                      by_cases he : x.map[k] = y.map[k]
                      · have hst := Lib.hid (take_step hlt hlt2 htk.out he)
                        have q1 : (x.map[k] != y.map[k]) = false := by simp [he]
                        clear he htk
                        go_wp2
                        go_roundw
                        case rel => exact ⟨k + 1, by omega, by go_num, hst, hbw⟩
                        case measure => simp [intOf]; omega
                      · have q1 := hno.out k hlt hlt2 he
                        rw [q1.out] at hsame
                        cases hsame
                    · obtain rfl : k = List.length x.map := by omega
                      go_wp2_with (fail)
                      refine (c6 _ (Sl.below ha2.halves (by (repeat (first | (with_reducible exact Below.refl _ _) | (with_reducible assumption) | (with_reducible refine below_al ?_ _) | (with_reducible refine Below.drew ?_) | (with_reducible refine below_drewN ?_ _) | (with_reducible refine below_st ?_ ?_ _) | (with_reducible refine below_tr ?_ (by assumption)) | (with_reducible exact Nat.le_refl _) | (focus (simp; done)) | (focus (simp; omega)))))) (Sl.below hb2.halves (by (repeat (first | (with_reducible exact Below.refl _ _) | (with_reducible assumption) | (with_reducible refine below_al ?_ _) | (with_reducible refine Below.drew ?_) | (with_reducible refine below_drewN ?_ _) | (with_reducible refine below_st ?_ ?_ _) | (with_reducible refine below_tr ?_ (by assumption)) | (with_reducible exact Nat.le_refl _) | (focus (simp; done)) | (focus (simp; omega))))))).mono ?_
                      rintro e w2 ⟨rfl, hb9⟩
                      have r9 := bcell1 hb9
                      have m0 := blt hb9 l0
                      have m1 := blt hb9 l1
                      go_wp2
                      go_ret
                      refine ⟨ret_bool hval.out.symm, ?_⟩
                      repeat (first | (with_reducible exact Below.refl _ _) | (with_reducible assumption) | (with_reducible refine below_al ?_ _) | (with_reducible refine Below.drew ?_) | (with_reducible refine below_drewN ?_ _) | (with_reducible refine below_st ?_ ?_ _) | (with_reducible refine below_tr ?_ (by assumption)) | (with_reducible exact Nat.le_refl _) | (focus (simp; done)) | (focus (simp; omega)))
                · rw [e6] at c6
                  cases e7 : eqB x.limits y.limits
                  · rw [e7] at c7
                    have hval := Lib.hid (show sameRooms x y = false by simp [sameRooms, e7])
                    go_enter Try.func95, Try.ntmps95
                    go_wp2
                    go_loopw [5, 6, 52] (fun _ _ i wr => ∃ k : Nat, k ≤ List.length x.map ∧ i = .int .i64 k ∧ Hid (List.take k x.map = List.take k y.map) ∧ Below ((w.alloc (.cells #[.slice am (List.length x.map) mc, .int .i64 x.div, .int .i64 x.bx, .int .i64 x.by_, .int .i64 x.low, .int .i64 x.high, .slice an.A (List.length x.noise) an.c, .slice al.A (List.length x.limits) al.c] 55)).alloc (.cells #[.slice bm (List.length y.map) md, .int .i64 y.div, .int .i64 y.bx, .int .i64 y.by_, .int .i64 y.low, .int .i64 y.high, .slice bn.A (List.length y.noise) bn.c, .slice bl.A (List.length y.limits) bl.c] 55)).heap.size ((w.alloc (.cells #[.slice am (List.length x.map) mc, .int .i64 x.div, .int .i64 x.bx, .int .i64 x.by_, .int .i64 x.low, .int .i64 x.high, .slice an.A (List.length x.noise) an.c, .slice al.A (List.length x.limits) al.c] 55)).alloc (.cells #[.slice bm (List.length y.map) md, .int .i64 y.div, .int .i64 y.bx, .int .i64 y.by_, .int .i64 y.low, .int .i64 y.high, .slice bn.A (List.length y.noise) bn.c, .slice bl.A (List.length y.limits) bl.c] 55)) wr) (fun _ _ i _ => List.length x.map - (intOf i).toNat)
                    case atStart => exact ⟨0, Nat.zero_le _, rfl, by simp [Hid], Below.refl _ _⟩
                    case round =>
                      obtain ⟨k, hk, rfl, htk, hbw⟩ := hrel
                      have r0 := bcell1 hbw
                      have l0 : w.heap.size < wr.heap.size := blt hbw (by first | (simp; done) | (simp; omega) | omega)
                      have l1 : w.heap.size + 1 < wr.heap.size := blt hbw (by first | (simp; done) | (simp; omega) | omega)
                      by_cases hlt : k < List.length x.map
                      · have hlt2 : k < List.length y.map := by have := HL.out; omega
                        obtain ⟨b, off, rfl, hblt, hc⟩ := (Sl.below ha1 (by (repeat (first | (with_reducible exact Below.refl _ _) | (with_reducible assumption) | (with_reducible refine below_al ?_ _) | (with_reducible refine Below.drew ?_) | (with_reducible refine below_drewN ?_ _) | (with_reducible refine below_st ?_ ?_ _) | (with_reducible refine below_tr ?_ (by assumption)) | (with_reducible exact Nat.le_refl _) | (focus (simp; done)) | (focus (simp; omega)))) : Below w.heap.size w wr)).at_ hlt
                        obtain ⟨b', off', rfl, hblt', hc'⟩ := (Sl.below hb1 (by (repeat (first | (with_reducible exact Below.refl _ _) | (with_reducible assumption) | (with_reducible refine below_al ?_ _) | (with_reducible refine Below.drew ?_) | (with_reducible refine below_drewN ?_ _) | (with_reducible refine below_st ?_ ?_ _) | (with_reducible refine below_tr ?_ (by assumption)) | (with_reducible exact Nat.le_refl _) | (focus (simp; done)) | (focus (simp; omega)))) : Below w.heap.size w wr)).at_ hlt2
                        have g0 := hc 0 _ rfl
                        have g1 := hc' 0 _ rfl
                        clear hc hc'
                        simp only [Nat.mul_one, Nat.add_zero] at g0 g1
                        have i1 : (0 : Int) ≤ (k : Int) := by omega
                        have i2 : (k : Int) < (List.length x.map : Int) := by omega
                        have i3 : (k : Int) < (List.length y.map : Int) := by omega
                        by_cases he : x.map[k] = y.map[k]
                        · have hst := Lib.hid (take_step hlt hlt2 htk.out he)
                          have q1 : (x.map[k] != y.map[k]) = false := by simp [he]
                          clear he htk
                          go_wp2
                          go_roundw
                          case rel => exact ⟨k + 1, by omega, by go_num, hst, hbw⟩
                          case measure => simp [intOf]; omega
                        · have q1 := hno.out k hlt hlt2 he
                          rw [q1.out] at hsame
                          cases hsame
                      · obtain rfl : k = List.length x.map := by omega
                        go_wp2_with (fail)
                        refine (c6 _ (Sl.below ha2.halves (by (repeat (first | (with_reducible exact Below.refl _ _) | (with_reducible assumption) | (with_reducible refine below_al ?_ _) | (with_reducible refine Below.drew ?_) | (with_reducible refine below_drewN ?_ _) | (with_reducible refine below_st ?_ ?_ _) | (with_reducible refine below_tr ?_ (by assumption)) | (with_reducible exact Nat.le_refl _) | (focus (simp; done)) | (focus (simp; omega)))))) (Sl.below hb2.halves (by (repeat (first | (with_reducible exact Below.refl _ _) | (with_reducible assumption) | (with_reducible refine below_al ?_ _) | (with_reducible refine Below.drew ?_) | (with_reducible refine below_drewN ?_ _) | (with_reducible refine below_st ?_ ?_ _) | (with_reducible refine below_tr ?_ (by assumption)) | (with_reducible exact Nat.le_refl _) | (focus (simp; done)) | (focus (simp; omega))))))).mono ?_
                        rintro e w2 ⟨rfl, hb9⟩
                        have r9 := bcell1 hb9
                        have m0 := blt hb9 l0
                        have m1 := blt hb9 l1
                        go_wp2_with (fail)
                        refine (c7 _ (Sl.below ha3.halves (by (repeat (first | (with_reducible exact Below.refl _ _) | (with_reducible assumption) | (with_reducible refine below_al ?_ _) | (with_reducible refine Below.drew ?_) | (with_reducible refine below_drewN ?_ _) | (with_reducible refine below_st ?_ ?_ _) | (with_reducible refine below_tr ?_ (by assumption)) | (with_reducible exact Nat.le_refl _) | (focus (simp; done)) | (focus (simp; omega)))))) (Sl.below hb3.halves (by (repeat (first | (with_reducible exact Below.refl _ _) | (with_reducible assumption) | (with_reducible refine below_al ?_ _) | (with_reducible refine Below.drew ?_) | (with_reducible refine below_drewN ?_ _) | (with_reducible refine below_st ?_ ?_ _) | (with_reducible refine below_tr ?_ (by assumption)) | (with_reducible exact Nat.le_refl _) | (focus (simp; done)) | (focus (simp; omega))))))).mono ?_
                        rintro e w3 ⟨rfl, hb8⟩
                        go_wp2
                        go_ret
                        refine ⟨ret_bool hval.out.symm, ?_⟩
                        repeat (first | (with_reducible exact Below.refl _ _) | (with_reducible assumption) | (with_reducible refine below_al ?_ _) | (with_reducible refine Below.drew ?_) | (with_reducible refine below_drewN ?_ _) | (with_reducible refine below_st ?_ ?_ _) | (with_reducible refine below_tr ?_ (by assumption)) | (with_reducible exact Nat.le_refl _) | (focus (simp; done)) | (focus (simp; omega)))
                  · rw [e7] at c7
                    have hval := Lib.hid (show sameRooms x y = true by simp [sameRooms, eq_of_bne e1, eq_of_bne e2, eq_of_bne e3, eq_of_bne e4, eq_of_bne e5, hsame, e6, e7])
                    go_enter Try.func95, Try.ntmps95
                    go_wp2
                    go_loopw [5, 6, 52] (fun _ _ i wr => ∃ k : Nat, k ≤ List.length x.map ∧ i = .int .i64 k ∧ Hid (List.take k x.map = List.take k y.map) ∧ Below ((w.alloc (.cells #[.slice am (List.length x.map) mc, .int .i64 x.div, .int .i64 x.bx, .int .i64 x.by_, .int .i64 x.low, .int .i64 x.high, .slice an.A (List.length x.noise) an.c, .slice al.A (List.length x.limits) al.c] 55)).alloc (.cells #[.slice bm (List.length y.map) md, .int .i64 y.div, .int .i64 y.bx, .int .i64 y.by_, .int .i64 y.low, .int .i64 y.high, .slice bn.A (List.length y.noise) bn.c, .slice bl.A (List.length y.limits) bl.c] 55)).heap.size ((w.alloc (.cells #[.slice am (List.length x.map) mc, .int .i64 x.div, .int .i64 x.bx, .int .i64 x.by_, .int .i64 x.low, .int .i64 x.high, .slice an.A (List.length x.noise) an.c, .slice al.A (List.length x.limits) al.c] 55)).alloc (.cells #[.slice bm (List.length y.map) md, .int .i64 y.div, .int .i64 y.bx, .int .i64 y.by_, .int .i64 y.low, .int .i64 y.high, .slice bn.A (List.length y.noise) bn.c, .slice bl.A (List.length y.limits) bl.c] 55)) wr) (fun _ _ i _ => List.length x.map - (intOf i).toNat)
                    case atStart => exact ⟨0, Nat.zero_le _, rfl, by simp [Hid], Below.refl _ _⟩
                    case round =>
                      obtain ⟨k, hk, rfl, htk, hbw⟩ := hrel
                      have r0 := bcell1 hbw
                      have l0 : w.heap.size < wr.heap.size := blt hbw (by first | (simp; done) | (simp; omega) | omega)
                      have l1 : w.heap.size + 1 < wr.heap.size := blt hbw (by first | (simp; done) | (simp; omega) | omega)
                      by_cases hlt : k < List.length x.map
                      · have hlt2 : k < List.length y.map := by have := HL.out; omega
                        obtain ⟨b, off, rfl, hblt, hc⟩ := (Sl.below ha1 (by (repeat (first | (with_reducible exact Below.refl _ _) | (with_reducible assumption) | (with_reducible refine below_al ?_ _) | (with_reducible refine Below.drew ?_) | (with_reducible refine below_drewN ?_ _) | (with_reducible refine below_st ?_ ?_ _) | (with_reducible refine below_tr ?_ (by assumption)) | (with_reducible exact Nat.le_refl _) | (focus (simp; done)) | (focus (simp; omega)))) : Below w.heap.size w wr)).at_ hlt
                        obtain ⟨b', off', rfl, hblt', hc'⟩ := (Sl.below hb1 (by (repeat (first | (with_reducible exact Below.refl _ _) | (with_reducible assumption) | (with_reducible refine below_al ?_ _) | (with_reducible refine Below.drew ?_) | (with_reducible refine below_drewN ?_ _) | (with_reducible refine below_st ?_ ?_ _) | (with_reducible refine below_tr ?_ (by assumption)) | (with_reducible exact Nat.le_refl _) | (focus (simp; done)) | (focus (simp; omega)))) : Below w.heap.size w wr)).at_ hlt2
                        have g0 := hc 0 _ rfl
                        have g1 := hc' 0 _ rfl
                        clear hc hc'
                        simp only [Nat.mul_one, Nat.add_zero] at g0 g1
                        have i1 : (0 : Int) ≤ (k : Int) := by omega
                        have i2 : (k : Int) < (List.length x.map : Int) := by omega
                        have i3 : (k : Int) < (List.length y.map : Int) := by omega
                        by_cases he : x.map[k] = y.map[k]
                        · have hst := Lib.hid (take_step hlt hlt2 htk.out he)
                          have q1 : (x.map[k] != y.map[k]) = false := by simp [he]
                          clear he htk
                          go_wp2
                          go_roundw
                          case rel => exact ⟨k + 1, by omega, by go_num, hst, hbw⟩
                          case measure => simp [intOf]; omega
                        · have q1 := hno.out k hlt hlt2 he
                          rw [q1.out] at hsame
                          cases hsame
                      · obtain rfl : k = List.length x.map := by omega
                        go_wp2_with (fail)
                        refine (c6 _ (Sl.below ha2.halves (by (repeat (first | (with_reducible exact Below.refl _ _) | (with_reducible assumption) | (with_reducible refine below_al ?_ _) | (with_reducible refine Below.drew ?_) | (with_reducible refine below_drewN ?_ _) | (with_reducible refine below_st ?_ ?_ _) | (with_reducible refine below_tr ?_ (by assumption)) | (with_reducible exact Nat.le_refl _) | (focus (simp; done)) | (focus (simp; omega)))))) (Sl.below hb2.halves (by (repeat (first | (with_reducible exact Below.refl _ _) | (with_reducible assumption) | (with_reducible refine below_al ?_ _) | (with_reducible refine Below.drew ?_) | (with_reducible refine below_drewN ?_ _) | (with_reducible refine below_st ?_ ?_ _) | (with_reducible refine below_tr ?_ (by assumption)) | (with_reducible exact Nat.le_refl _) | (focus (simp; done)) | (focus (simp; omega))))))).mono ?_
                        rintro e w2 ⟨rfl, hb9⟩
                        have r9 := bcell1 hb9
                        have m0 := blt hb9 l0
                        have m1 := blt hb9 l1
                        go_wp2_with (fail)
                        refine (c7 _ (Sl.below ha3.halves (by (repeat (first | (with_reducible exact Below.refl _ _) | (with_reducible assumption) | (with_reducible refine below_al ?_ _) | (with_reducible refine Below.drew ?_) | (with_reducible refine below_drewN ?_ _) | (with_reducible refine below_st ?_ ?_ _) | (with_reducible refine below_tr ?_ (by assumption)) | (with_reducible exact Nat.le_refl _) | (focus (simp; done)) | (focus (simp; omega)))))) (Sl.below hb3.halves (by (repeat (first | (with_reducible exact Below.refl _ _) | (with_reducible assumption) | (with_reducible refine below_al ?_ _) | (with_reducible refine Below.drew ?_) | (with_reducible refine below_drewN ?_ _) | (with_reducible refine below_st ?_ ?_ _) | (with_reducible refine below_tr ?_ (by assumption)) | (with_reducible exact Nat.le_refl _) | (focus (simp; done)) | (focus (simp; omega))))))).mono ?_
                        rintro e w3 ⟨rfl, hb8⟩
                        go_wp2
                        go_ret
                        refine ⟨ret_bool hval.out.symm, ?_⟩
                        repeat (first | (with_reducible exact Below.refl _ _) | (with_reducible assumption) | (with_reducible refine below_al ?_ _) | (with_reducible refine Below.drew ?_) | (with_reducible refine below_drewN ?_ _) | (with_reducible refine below_st ?_ ?_ _) | (with_reducible refine below_tr ?_ (by assumption)) | (with_reducible exact Nat.le_refl _) | (focus (simp; done)) | (focus (simp; omega)))
            · skip
              go_enter Try.func95, Try.ntmps95
              go_wp2
              go_ret
              refine ⟨ret_bool (by simp [sameRooms, eq_of_bne e1, eq_of_bne e2, eq_of_bne e3, eq_of_bne e4, ne_of_bne e5]), ?_⟩
              repeat (first | (with_reducible exact Below.refl _ _) | (with_reducible assumption) | (with_reducible refine below_al ?_ _) | (with_reducible refine Below.drew ?_) | (with_reducible refine below_drewN ?_ _) | (with_reducible refine below_st ?_ ?_ _) | (with_reducible refine below_tr ?_ (by assumption)) | (with_reducible exact Nat.le_refl _) | (focus (simp; done)) | (focus (simp; omega)))
          · skip
            go_enter Try.func95, Try.ntmps95
            go_wp2
            go_ret
            refine ⟨ret_bool (by simp [sameRooms, eq_of_bne e1, eq_of_bne e2, eq_of_bne e3, ne_of_bne e4]), ?_⟩
            repeat (first | (with_reducible exact Below.refl _ _) | (with_reducible assumption) | (with_reducible refine below_al ?_ _) | (with_reducible refine Below.drew ?_) | (with_reducible refine below_drewN ?_ _) | (with_reducible refine below_st ?_ ?_ _) | (with_reducible refine below_tr ?_ (by assumption)) | (with_reducible exact Nat.le_refl _) | (focus (simp; done)) | (focus (simp; omega)))
        · skip
          go_enter Try.func95, Try.ntmps95
          go_wp2
          go_ret
          refine ⟨ret_bool (by simp [sameRooms, eq_of_bne e1, eq_of_bne e2, ne_of_bne e3]), ?_⟩
          repeat (first | (with_reducible exact Below.refl _ _) | (with_reducible assumption) | (with_reducible refine below_al ?_ _) | (with_reducible refine Below.drew ?_) | (with_reducible refine below_drewN ?_ _) | (with_reducible refine below_st ?_ ?_ _) | (with_reducible refine below_tr ?_ (by assumption)) | (with_reducible exact Nat.le_refl _) | (focus (simp; done)) | (focus (simp; omega)))
      · skip
        go_enter Try.func95, Try.ntmps95
        go_wp2
        go_ret
        refine ⟨ret_bool (by simp [sameRooms, eq_of_bne e1, ne_of_bne e2]), ?_⟩
        repeat (first | (with_reducible exact Below.refl _ _) | (with_reducible assumption) | (with_reducible refine below_al ?_ _) | (with_reducible refine Below.drew ?_) | (with_reducible refine below_drewN ?_ _) | (with_reducible refine below_st ?_ ?_ _) | (with_reducible refine below_tr ?_ (by assumption)) | (with_reducible exact Nat.le_refl _) | (focus (simp; done)) | (focus (simp; omega)))
    · skip
      go_enter Try.func95, Try.ntmps95
      go_wp2
      go_ret
      refine ⟨ret_bool (by simp [sameRooms, ne_of_bne e1]), ?_⟩
      repeat (first | (with_reducible exact Below.refl _ _) | (with_reducible assumption) | (with_reducible refine below_al ?_ _) | (with_reducible refine Below.drew ?_) | (with_reducible refine below_drewN ?_ _) | (with_reducible refine below_st ?_ ?_ _) | (with_reducible refine below_tr ?_ (by assumption)) | (with_reducible exact Nat.le_refl _) | (focus (simp; done)) | (focus (simp; omega)))
  · skip
    go_enter Try.func95, Try.ntmps95
    go_wp2
    go_ret
    refine ⟨ret_bool (by simp [sameRooms, eqB_len (lenb e0)]), ?_⟩
    repeat (first | (with_reducible exact Below.refl _ _) | (with_reducible assumption) | (with_reducible refine below_al ?_ _) | (with_reducible refine Below.drew ?_) | (with_reducible refine below_drewN ?_ _) | (with_reducible refine below_st ?_ ?_ _) | (with_reducible refine below_tr ?_ (by assumption)) | (with_reducible exact Nat.le_refl _) | (focus (simp; done)) | (focus (simp; omega)))
set_option maxRecDepth 100000 in
set_option maxHeartbeats 4000000 in
theorem sSameWatch_c (x y : Watch) (a b : WatchA) (w : World) (hx : watchLen x ≤ 1048576) (hy : watchLen y ≤ 1048576) (ha : WatchSl w x a) (hb : WatchSl w y b) :
    Calls Try.prog 42 #[watchV x a, watchV y b] w fun e w' => e = .returned (.bool (sameWatch x y)) ∧ Below w.heap.size w w' := by
  simp only [watchLen] at hx hy
  obtain ⟨ar, ag, ⟨al, ac⟩⟩ := a
  obtain ⟨br, bg, ⟨bl, bc⟩⟩ := b
  obtain ⟨ha1, ha2, ha3⟩ := ha
  obtain ⟨hb1, hb2, hb3⟩ := hb
  dsimp only at ha1 ha2 ha3 hb1 hb2 hb3
  have c0 := fun W h1 h2 => sSameRooms_c x.room y.room ar br W (by simp only [roomLen]; omega) (by simp only [roomLen]; omega) h1 h2
  have c1 := fun W h1 h2 => sSameRegion_c x.reg y.reg ag bg W (by omega) (by omega) h1 h2
  cases e0 : sameRooms x.room y.room
  · rw [e0] at c0
    have hval := Lib.hid (show sameWatch x y = false by simp [sameWatch, e0])
    go_enter Try.func42, Try.ntmps42
    go_wp2_with (fail)
    refine (c0 _ (RoomSl.below ha1 (by (repeat (first | (with_reducible exact Below.refl _ _) | (with_reducible assumption) | (with_reducible refine below_al ?_ _) | (with_reducible refine Below.drew ?_) | (with_reducible refine below_drewN ?_ _) | (with_reducible refine below_st ?_ ?_ _) | (with_reducible refine below_tr ?_ (by assumption)) | (with_reducible exact Nat.le_refl _) | (focus (simp; done)) | (focus (simp; omega)))))) (RoomSl.below hb1 (by (repeat (first | (with_reducible exact Below.refl _ _) | (with_reducible assumption) | (with_reducible refine below_al ?_ _) | (with_reducible refine Below.drew ?_) | (with_reducible refine below_drewN ?_ _) | (with_reducible refine below_st ?_ ?_ _) | (with_reducible refine below_tr ?_ (by assumption)) | (with_reducible exact Nat.le_refl _) | (focus (simp; done)) | (focus (simp; omega))))))).mono ?_
    rintro e v0 ⟨rfl, hc0⟩
    have s0 := bcell1 hc0
    have m0 : w.heap.size < v0.heap.size := blt hc0 (by first | (simp; done) | (simp; omega) | omega)
    have n0 : w.heap.size + 1 < v0.heap.size := blt hc0 (by first | (simp; done) | (simp; omega) | omega)
    go_wp2
    go_ret
    refine ⟨ret_bool hval.out.symm, ?_⟩
    repeat (first | (with_reducible exact Below.refl _ _) | (with_reducible assumption) | (with_reducible refine below_al ?_ _) | (with_reducible refine Below.drew ?_) | (with_reducible refine below_drewN ?_ _) | (with_reducible refine below_st ?_ ?_ _) | (with_reducible refine below_tr ?_ (by assumption)) | (with_reducible exact Nat.le_refl _) | (focus (simp; done)) | (focus (simp; omega)))
  · rw [e0] at c0
    cases e1 : eqB x.reg y.reg
    · rw [e1] at c1
      have hval := Lib.hid (show sameWatch x y = false by simp [sameWatch, e1])
      go_enter Try.func42, Try.ntmps42
      go_wp2_with (fail)
      refine (c0 _ (RoomSl.below ha1 (by (repeat (first | (with_reducible exact Below.refl _ _) | (with_reducible assumption) | (with_reducible refine below_al ?_ _) | (with_reducible refine Below.drew ?_) | (with_reducible refine below_drewN ?_ _) | (with_reducible refine below_st ?_ ?_ _) | (with_reducible refine below_tr ?_ (by assumption)) | (with_reducible exact Nat.le_refl _) | (focus (simp; done)) | (focus (simp; omega)))))) (RoomSl.below hb1 (by (repeat (first | (with_reducible exact Below.refl _ _) | (with_reducible assumption) | (with_reducible refine below_al ?_ _) | (with_reducible refine Below.drew ?_) | (with_reducible refine below_drewN ?_ _) | (with_reducible refine below_st ?_ ?_ _) | (with_reducible refine below_tr ?_ (by assumption)) | (with_reducible exact Nat.le_refl _) | (focus (simp; done)) | (focus (simp; omega))))))).mono ?_
      rintro e v0 ⟨rfl, hc0⟩
      have s0 := bcell1 hc0
      have m0 : w.heap.size < v0.heap.size := blt hc0 (by first | (simp; done) | (simp; omega) | omega)
      have n0 : w.heap.size + 1 < v0.heap.size := blt hc0 (by first | (simp; done) | (simp; omega) | omega)
      go_wp2_with (fail)
      refine (c1 _ (Sl.below ha2.halves (by (repeat (first | (with_reducible exact Below.refl _ _) | (with_reducible assumption) | (with_reducible refine below_al ?_ _) | (with_reducible refine Below.drew ?_) | (with_reducible refine below_drewN ?_ _) | (with_reducible refine below_st ?_ ?_ _) | (with_reducible refine below_tr ?_ (by assumption)) | (with_reducible exact Nat.le_refl _) | (focus (simp; done)) | (focus (simp; omega)))))) (Sl.below hb2.halves (by (repeat (first | (with_reducible exact Below.refl _ _) | (with_reducible assumption) | (with_reducible refine below_al ?_ _) | (with_reducible refine Below.drew ?_) | (with_reducible refine below_drewN ?_ _) | (with_reducible refine below_st ?_ ?_ _) | (with_reducible refine below_tr ?_ (by assumption)) | (with_reducible exact Nat.le_refl _) | (focus (simp; done)) | (focus (simp; omega))))))).mono ?_
      rintro e v1 ⟨rfl, hc1⟩
      have s1 := bcell1 hc1
      have m1 : w.heap.size < v1.heap.size := blt hc1 (by first | (simp; done) | (simp; omega) | omega)
      have n1 : w.heap.size + 1 < v1.heap.size := blt hc1 (by first | (simp; done) | (simp; omega) | omega)
      go_wp2
      go_ret
      refine ⟨ret_bool hval.out.symm, ?_⟩
      repeat (first | (with_reducible exact Below.refl _ _) | (with_reducible assumption) | (with_reducible refine below_al ?_ _) | (with_reducible refine Below.drew ?_) | (with_reducible refine below_drewN ?_ _) | (with_reducible refine below_st ?_ ?_ _) | (with_reducible refine below_tr ?_ (by assumption)) | (with_reducible exact Nat.le_refl _) | (focus (simp; done)) | (focus (simp; omega)))
    · rw [e1] at c1
      cases e2 : (((List.length x.log : Nat) : Int) != ((List.length y.log : Nat) : Int))
      · skip
        have HL := Lib.hid (lene e2)
        have hfin := Lib.hid (fun h => Lib.hid (eqB_yes (xs := x.log) (ys := y.log) (lene e2) h))
        have hno := Lib.hid (fun k h1 h2 h => Lib.hid (@eqB_no Int _ x.log y.log k h1 h2 h))
        cases hsame : eqB x.log y.log
        · have hval := Lib.hid (show sameWatch x y = false by simp [sameWatch, hsame])
          go_enter Try.func42, Try.ntmps42
          go_wp2_with (fail)
          refine (c0 _ (RoomSl.below ha1 (by (repeat (first | (with_reducible exact Below.refl _ _) | (with_reducible assumption) | (with_reducible refine below_al ?_ _) | (with_reducible refine Below.drew ?_) | (with_reducible refine below_drewN ?_ _) | (with_reducible refine below_st ?_ ?_ _) | (with_reducible refine below_tr ?_ (by assumption)) | (with_reducible exact Nat.le_refl _) | (focus (simp; done)) | (focus (simp; omega)))))) (RoomSl.below hb1 (by (repeat (first | (with_reducible exact Below.refl _ _) | (with_reducible assumption) | (with_reducible refine below_al ?_ _) | (with_reducible refine Below.drew ?_) | (with_reducible refine below_drewN ?_ _) | (with_reducible refine below_st ?_ ?_ _) | (with_reducible refine below_tr ?_ (by assumption)) | (with_reducible exact Nat.le_refl _) | (focus (simp; done)) | (focus (simp; omega))))))).mono ?_
          rintro e v0 ⟨rfl, hc0⟩
          have s0 := bcell1 hc0
          have m0 : w.heap.size < v0.heap.size := blt hc0 (by first | (simp; done) | (simp; omega) | omega)
          have n0 : w.heap.size + 1 < v0.heap.size := blt hc0 (by first | (simp; done) | (simp; omega) | omega)
          go_wp2_with (fail)
          refine (c1 _ (Sl.below ha2.halves (by (repeat (first | (with_reducible exact Below.refl _ _) | (with_reducible assumption) | (with_reducible refine below_al ?_ _) | (with_reducible refine Below.drew ?_) | (with_reducible refine below_drewN ?_ _) | (with_reducible refine below_st ?_ ?_ _) | (with_reducible refine below_tr ?_ (by assumption)) | (with_reducible exact Nat.le_refl _) | (focus (simp; done)) | (focus (simp; omega)))))) (Sl.below hb2.halves (by (repeat (first | (with_reducible exact Below.refl _ _) | (with_reducible assumption) | (with_reducible refine below_al ?_ _) | (with_reducible refine Below.drew ?_) | (with_reducible refine below_drewN ?_ _) | (with_reducible refine below_st ?_ ?_ _) | (with_reducible refine below_tr ?_ (by assumption)) | (with_reducible exact Nat.le_refl _) | (focus (simp; done)) | (focus (simp; omega))))))).mono ?_
          rintro e v1 ⟨rfl, hc1⟩
          have s1 := bcell1 hc1
          have m1 : w.heap.size < v1.heap.size := blt hc1 (by first | (simp; done) | (simp; omega) | omega)
          have n1 : w.heap.size + 1 < v1.heap.size := blt hc1 (by first | (simp; done) | (simp; omega) | omega)
          go_wp2
          go_loopw [5, 6, 33] (fun _ _ i wr => ∃ k : Nat, k ≤ List.length x.log ∧ i = .int .i64 k ∧ Hid (List.take k x.log = List.take k y.log) ∧ Below v1.heap.size v1 wr) (fun _ _ i _ => List.length x.log - (intOf i).toNat)
          case atStart => exact ⟨0, Nat.zero_le _, rfl, by simp [Hid], by (repeat (first | (with_reducible exact Below.refl _ _) | (with_reducible assumption) | (with_reducible refine below_al ?_ _) | (with_reducible refine Below.drew ?_) | (with_reducible refine below_drewN ?_ _) | (with_reducible refine below_st ?_ ?_ _) | (with_reducible refine below_tr ?_ (by assumption)) | (with_reducible exact Nat.le_refl _) | (focus (simp; done)) | (focus (simp; omega))))⟩
          case round =>
            obtain ⟨k, hk, rfl, htk, hbw⟩ := hrel
            have r0 := bcell1 hbw
            have l0 : w.heap.size < wr.heap.size := blt hbw (by first | (simp; done) | (simp; omega) | omega)
            have l1 : w.heap.size + 1 < wr.heap.size := blt hbw (by first | (simp; done) | (simp; omega) | omega)
            by_cases hlt : k < List.length x.log
            · have hlt2 : k < List.length y.log := by have := HL.out; omega
              obtain ⟨b, off, rfl, hblt, hc⟩ := (Sl.below ha3 (by (repeat (first | (with_reducible exact Below.refl _ _) | (with_reducible assumption) | (with_reducible refine below_al ?_ _) | (with_reducible refine Below.drew ?_) | (with_reducible refine below_drewN ?_ _) | (with_reducible refine below_st ?_ ?_ _) | (with_reducible refine below_tr ?_ (by assumption)) | (with_reducible exact Nat.le_refl _) | (focus (simp; done)) | (focus (simp; omega)))) : Below w.heap.size w wr)).at_ hlt
              obtain ⟨b', off', rfl, hblt', hc'⟩ := (Sl.below hb3 (by (repeat (first | (with_reducible exact Below.refl _ _) | (with_reducible assumption) | (with_reducible refine below_al ?_ _) | (with_reducible refine Below.drew ?_) | (with_reducible refine below_drewN ?_ _) | (with_reducible refine below_st ?_ ?_ _) | (with_reducible refine below_tr ?_ (by assumption)) | (with_reducible exact Nat.le_refl _) | (focus (simp; done)) | (focus (simp; omega)))) : Below w.heap.size w wr)).at_ hlt2
              have g0 := hc 0 _ rfl
              have g1 := hc' 0 _ rfl
              clear hc hc'
              simp only [Nat.mul_one, Nat.add_zero] at g0 g1
              have i1 : (0 : Int) ≤ (k : Int) := by omega
              have i2 : (k : Int) < (List.length x.log : Int) := by omega
              have i3 : (k : Int) < (List.length y.log : Int) := by omega
              by_cases he : x.log[k] = y.log[k]
              · have hst := Lib.hid (take_step hlt hlt2 htk.out he)
                have q1 : (x.log[k] != y.log[k]) = false := by simp [he]
                clear he htk
                go_wp2
                go_roundw
                case rel => exact ⟨k + 1, by omega, by go_num, hst, hbw⟩
                case measure => simp [intOf]; omega
              · have q1 : (x.log[k] != y.log[k]) = true := by simp [he]
                clear he htk
                go_wp2
                go_ret
                refine ⟨ret_bool hval.out.symm, ?_⟩
                repeat (first | (with_reducible exact Below.refl _ _) | (with_reducible assumption) | (with_reducible refine below_al ?_ _) | (with_reducible refine Below.drew ?_) | (with_reducible refine below_drewN ?_ _) | (with_reducible refine below_st ?_ ?_ _) | (with_reducible refine below_tr ?_ (by assumption)) | (with_reducible exact Nat.le_refl _) | (focus (simp; done)) | (focus (simp; omega)))
            · obtain rfl : k = List.length x.log := by omega
              have := hfin.out htk.out
              rw [this.out] at hsame
              cases hsame
        · have hval := Lib.hid (show sameWatch x y = true by simp [sameWatch, e0, e1, hsame])
          go_enter Try.func42, Try.ntmps42
          go_wp2_with (fail)
          refine (c0 _ (RoomSl.below ha1 (by (repeat (first | (with_reducible exact Below.refl _ _) | (with_reducible assumption) | (with_reducible refine below_al ?_ _) | (with_reducible refine Below.drew ?_) | (with_reducible refine below_drewN ?_ _) | (with_reducible refine below_st ?_ ?_ _) | (with_reducible refine below_tr ?_ (by assumption)) | (with_reducible exact Nat.le_refl _) | (focus (simp; done)) | (focus (simp; omega)))))) (RoomSl.below hb1 (by (repeat (first | (with_reducible exact Below.refl _ _) | (with_reducible assumption) | (with_reducible refine below_al ?_ _) | (with_reducible refine Below.drew ?_) | (with_reducible refine below_drewN ?_ _) | (with_reducible refine below_st ?_ ?_ _) | (with_reducible refine below_tr ?_ (by assumption)) | (with_reducible exact Nat.le_refl _) | (focus (simp; done)) | (focus (simp; omega))))))).mono ?_
          rintro e v0 ⟨rfl, hc0⟩
          have s0 := bcell1 hc0
          have m0 : w.heap.size < v0.heap.size := blt hc0 (by first | (simp; done) | (simp; omega) | omega)
          have n0 : w.heap.size + 1 < v0.heap.size := blt hc0 (by first | (simp; done) | (simp; omega) | omega)
          go_wp2_with (fail)
          refine (c1 _ (Sl.below ha2.halves (by (repeat (first | (with_reducible exact Below.refl _ _) | (with_reducible assumption) | (with_reducible refine below_al ?_ _) | (with_reducible refine Below.drew ?_) | (with_reducible refine below_drewN ?_ _) | (with_reducible refine below_st ?_ ?_ _) | (with_reducible refine below_tr ?_ (by assumption)) | (with_reducible exact Nat.le_refl _) | (focus (simp; done)) | (focus (simp; omega)))))) (Sl.below hb2.halves (by (repeat (first | (with_reducible exact Below.refl _ _) | (with_reducible assumption) | (with_reducible refine below_al ?_ _) | (with_reducible refine Below.drew ?_) | (with_reducible refine below_drewN ?_ _) | (with_reducible refine below_st ?_ ?_ _) | (with_reducible refine below_tr ?_ (by assumption)) | (with_reducible exact Nat.le_refl _) | (focus (simp; done)) | (focus (simp; omega))))))).mono ?_
          rintro e v1 ⟨rfl, hc1⟩
          have s1 := bcell1 hc1
          have m1 : w.heap.size < v1.heap.size := blt hc1 (by first | (simp; done) | (simp; omega) | omega)
          have n1 : w.heap.size + 1 < v1.heap.size := blt hc1 (by first | (simp; done) | (simp; omega) | omega)
          go_wp2
          go_loopw [5, 6, 33] (fun _ _ i wr => ∃ k : Nat, k ≤ List.length x.log ∧ i = .int .i64 k ∧ Hid (List.take k x.log = List.take k y.log) ∧ Below v1.heap.size v1 wr) (fun _ _ i _ => List.length x.log - (intOf i).toNat)
          case atStart => exact ⟨0, Nat.zero_le _, rfl, by simp [Hid], by (repeat (first | (with_reducible exact Below.refl _ _) | (with_reducible assumption) | (with_reducible refine below_al ?_ _) | (with_reducible refine Below.drew ?_) | (with_reducible refine below_drewN ?_ _) | (with_reducible refine below_st ?_ ?_ _) | (with_reducible refine below_tr ?_ (by assumption)) | (with_reducible exact Nat.le_refl _) | (focus (simp; done)) | (focus (simp; omega))))⟩
          case round =>
            obtain ⟨k, hk, rfl, htk, hbw⟩ := hrel
            have r0 := bcell1 hbw
            have l0 : w.heap.size < wr.heap.size := blt hbw (by first | (simp; done) | (simp; omega) | omega)
            have l1 : w.heap.size + 1 < wr.heap.size := blt hbw (by first | (simp; done) | (simp; omega) | omega)
            by_cases hlt : k < List.length x.log
            · have hlt2 : k < List.length y.log := by have := HL.out; omega
              obtain ⟨b, off, rfl, hblt, hc⟩ := (Sl.below ha3 (by (repeat (first | (with_reducible exact Below.refl _ _) | (with_reducible assumption) | (with_reducible refine below_al ?_ _) | (with_reducible refine Below.drew ?_) | (with_reducible refine below_drewN ?_ _) | (with_reducible refine below_st ?_ ?_ _) | (with_reducible refine below_tr ?_ (by assumption)) | (with_reducible exact Nat.le_refl _) | (focus (simp; done)) | (focus (simp; omega)))) : Below w.heap.size w wr)).at_ hlt
              obtain ⟨b', off', rfl, hblt', hc'⟩ := (Sl.below hb3 (by (repeat (first | (with_reducible exact Below.refl _ _) | (with_reducible assumption) | (with_reducible refine below_al ?_ _) | (with_reducible refine Below.drew ?_) | (with_reducible refine below_drewN ?_ _) | (with_reducible refine below_st ?_ ?_ _) | (with_reducible refine below_tr ?_ (by assumption)) | (with_reducible exact Nat.le_refl _) | (focus (simp; done)) | (focus (simp; omega)))) : Below w.heap.size w wr)).at_ hlt2
              have g0 := hc 0 _ rfl
              have g1 := hc' 0 _ rfl
              clear hc hc'
              simp only [Nat.mul_one, Nat.add_zero] at g0 g1
              have i1 : (0 : Int) ≤ (k : Int) := by omega
              have i2 : (k : Int) < (List.length x.log : Int) := by omega
              have i3 : (k : Int) < (List.length y.log : Int) := by omega
              by_cases he : x.log[k] = y.log[k]
              · have hst := Lib.hid (take_step hlt hlt2 htk.out he)
                have q1 : (x.log[k] != y.log[k]) = false := by simp [he]
                clear he htk
                go_wp2
                go_roundw
                case rel => exact ⟨k + 1, by omega, by go_num, hst, hbw⟩
                case measure => simp [intOf]; omega
              · have q1 := hno.out k hlt hlt2 he
                rw [q1.out] at hsame
                cases hsame
            · obtain rfl : k = List.length x.log := by omega
              go_wp2
              go_ret
              refine ⟨ret_bool hval.out.symm, ?_⟩
              repeat (first | (with_reducible exact Below.refl _ _) | (with_reducible assumption) | (with_reducible refine below_al ?_ _) | (with_reducible refine Below.drew ?_) | (with_reducible refine below_drewN ?_ _) | (with_reducible refine below_st ?_ ?_ _) | (with_reducible refine below_tr ?_ (by assumption)) | (with_reducible exact Nat.le_refl _) | (focus (simp; done)) | (focus (simp; omega)))
      · have hval := Lib.hid (show sameWatch x y = false by simp [sameWatch, eqB_len (lenb e2)])
        go_enter Try.func42, Try.ntmps42
        go_wp2_with (fail)
        refine (c0 _ (RoomSl.below ha1 (by (repeat (first | (with_reducible exact Below.refl _ _) | (with_reducible assumption) | (with_reducible refine below_al ?_ _) | (with_reducible refine Below.drew ?_) | (with_reducible refine below_drewN ?_ _) | (with_reducible refine below_st ?_ ?_ _) | (with_reducible refine below_tr ?_ (by assumption)) | (with_reducible exact Nat.le_refl _) | (focus (simp; done)) | (focus (simp; omega)))))) (RoomSl.below hb1 (by (repeat (first | (with_reducible exact Below.refl _ _) | (with_reducible assumption) | (with_reducible refine below_al ?_ _) | (with_reducible refine Below.drew ?_) | (with_reducible refine below_drewN ?_ _) | (with_reducible refine below_st ?_ ?_ _) | (with_reducible refine below_tr ?_ (by assumption)) | (with_reducible exact Nat.le_refl _) | (focus (simp; done)) | (focus (simp; omega))))))).mono ?_
        rintro e v0 ⟨rfl, hc0⟩
        have s0 := bcell1 hc0
        have m0 : w.heap.size < v0.heap.size := blt hc0 (by first | (simp; done) | (simp; omega) | omega)
        have n0 : w.heap.size + 1 < v0.heap.size := blt hc0 (by first | (simp; done) | (simp; omega) | omega)
        go_wp2_with (fail)
        refine (c1 _ (Sl.below ha2.halves (by (repeat (first | (with_reducible exact Below.refl _ _) | (with_reducible assumption) | (with_reducible refine below_al ?_ _) | (with_reducible refine Below.drew ?_) | (with_reducible refine below_drewN ?_ _) | (with_reducible refine below_st ?_ ?_ _) | (with_reducible refine below_tr ?_ (by assumption)) | (with_reducible exact Nat.le_refl _) | (focus (simp; done)) | (focus (simp; omega)))))) (Sl.below hb2.halves (by (repeat (first | (with_reducible exact Below.refl _ _) | (with_reducible assumption) | (with_reducible refine below_al ?_ _) | (with_reducible refine Below.drew ?_) | (with_reducible refine below_drewN ?_ _) | (with_reducible refine below_st ?_ ?_ _) | (with_reducible refine below_tr ?_ (by assumption)) | (with_reducible exact Nat.le_refl _) | (focus (simp; done)) | (focus (simp; omega))))))).mono ?_
        rintro e v1 ⟨rfl, hc1⟩
        have s1 := bcell1 hc1
        have m1 : w.heap.size < v1.heap.size := blt hc1 (by first | (simp; done) | (simp; omega) | omega)
        have n1 : w.heap.size + 1 < v1.heap.size := blt hc1 (by first | (simp; done) | (simp; omega) | omega)
        go_wp2
        go_ret
        refine ⟨ret_bool hval.out.symm, ?_⟩
        repeat (first | (with_reducible exact Below.refl _ _) | (with_reducible assumption) | (with_reducible refine below_al ?_ _) | (with_reducible refine Below.drew ?_) | (with_reducible refine below_drewN ?_ _) | (with_reducible refine below_st ?_ ?_ _) | (with_reducible refine below_tr ?_ (by assumption)) | (with_reducible exact Nat.le_refl _) | (focus (simp; done)) | (focus (simp; omega)))
end Go.Proofs.Ytelkcmchokajaaa
