/-
  Valid modes: of the program and of the reference.
  Conditions: the slices hold at most 2^20 elements.
-/
import Derived.Test.YtbdihgcjopbnjaaGrQ
namespace Go.Proofs.Ytbdihgcjopbnjaa
open Go.RowKit

def modeIn (x : Room) (m : Mode) : Bool := inR m.low x.low x.high && inR m.high m.low x.high
def modesOk (x : Room) (ms : List Mode) : Bool := inR ms.length 1 4 && ms.all (modeIn x) && roomOk x
theorem modes_no {x : Room} {xs : List Mode} {k : Nat} (h : k < xs.length) (hb : modeIn x xs[k] = false) : xs.all (modeIn x) = false := by
  rw [List.all_eq_false]; exact ⟨_, List.getElem_mem h, by rw [hb]; decide⟩
theorem modes_yes {x : Room} {xs : List Mode} (h : ∀ y ∈ xs.take xs.length, modeIn x y = true) : xs.all (modeIn x) = true := by
  rw [List.take_length] at h
  rw [List.all_eq_true]; exact h
theorem modes_all {x : Room} {xs : List Mode} {k : Nat} (h : k < xs.length) (h1 : ∀ y ∈ xs.take k, modeIn x y = true) (h2 : modeIn x xs[k] = true) : ∀ y ∈ xs.take (k + 1), modeIn x y = true := by
  intro y hy
  rw [take_succ' xs k h] at hy
  simp only [List.mem_append, List.mem_singleton] at hy
  rcases hy with hy | rfl
  · exact h1 y hy
  · exact h2
theorem modeIn_iff {x : Room} {m : Mode} : modeIn x m = true ↔ x.low ≤ m.low ∧ m.low ≤ m.high ∧ m.high ≤ x.high := by
  simp only [modeIn, inR, Bool.and_eq_true, decide_eq_true_eq]
  omega

set_option maxRecDepth 100000 in
set_option maxHeartbeats 4000000 in
theorem iModesOk_c (x : Room) (a : RoomA) (M : Option Addr) (ms : List Mode) (mc : Nat) (w : World) (hn : roomLen x ≤ 1048576) (hin : RoomIn x) (hl : ms.length ≤ 1048576) (hs : RoomSl w x a) (hnl : RoomNil a) (hm : Sl 2 modeC w M ms) :
    Calls Try.prog 67 #[roomV x a, .slice M ms.length mc] w fun e w' => e = .returned (.bool (modesOk x ms)) ∧ Below w.heap.size w w' := by
  have hdef := Lib.hid (show modesOk x ms = (inR ms.length 1 4 && ms.all (modeIn x) && roomOk x) from rfl)
  have c0 := fun W => inRange_c ms.length 1 4 W
  have cR := fun W h => iRoomOk_c x a W hn hin h hnl
  cases e0 : inR ms.length 1 4
  · rw [e0] at c0
    have h1 := Lib.hid (show modesOk x ms = false by rw [hdef.out, e0]; rfl)
    clear hdef cR
    go_enter Try.func67, Try.ntmps67
    go_wp2_with (fail)
    refine (c0 _).mono ?_
    rintro e w' ⟨rfl, rfl⟩
    go_wp2
    go_ret
    refine ⟨ret_bool h1.out.symm, ?_⟩
    repeat (first | (with_reducible exact Below.refl _ _) | (with_reducible assumption) | (with_reducible refine below_al ?_ _) | (with_reducible refine Below.drew ?_) | (with_reducible refine below_drewN ?_ _) | (with_reducible refine below_st ?_ ?_ _) | (with_reducible refine below_tr ?_ (by assumption)) | (with_reducible exact Nat.le_refl _) | (focus (simp; done)) | (focus (simp; omega)))
  · rw [e0] at c0
    rw [e0] at hdef
    have H0 : Has (w.alloc (.cells #[.slice a.map.A (List.length x.map) a.map.c, .int .i64 x.div, .int .i64 x.bx, .int .i64 x.by_, .int .i64 x.low, .int .i64 x.high, .slice a.noise.A (List.length x.noise) a.noise.c, .slice a.limits.A (List.length x.limits) a.limits.c] 118)) w.heap.size [.slice a.map.A (List.length x.map) a.map.c, .int .i64 x.div, .int .i64 x.bx, .int .i64 x.by_, .int .i64 x.low, .int .i64 x.high, .slice a.noise.A (List.length x.noise) a.noise.c, .slice a.limits.A (List.length x.limits) a.limits.c] := by
      repeat (first | ((with_reducible refine Has.new_at ?_ _ _ rfl); (first | rfl | (focus (simp; done)))) | (with_reducible refine Has.set_ ?_ ?_ _) | (with_reducible refine Has.alloc ?_ _) | (with_reducible refine Has.below ?_ (by assumption)) | (focus (simp; done)) | (focus (simp; omega)))
    have b0 : Below w.heap.size w (w.alloc (.cells #[.slice a.map.A (List.length x.map) a.map.c, .int .i64 x.div, .int .i64 x.bx, .int .i64 x.by_, .int .i64 x.low, .int .i64 x.high, .slice a.noise.A (List.length x.noise) a.noise.c, .slice a.limits.A (List.length x.limits) a.limits.c] 118)) := by
      repeat (first | (with_reducible exact Below.refl _ _) | (with_reducible assumption) | (with_reducible refine below_al ?_ _) | (with_reducible refine Below.drew ?_) | (with_reducible refine below_drewN ?_ _) | (with_reducible refine below_st ?_ ?_ _) | (with_reducible refine below_tr ?_ (by assumption)) | (with_reducible exact Nat.le_refl _) | (focus (simp; done)) | (focus (simp; omega)))
    have hs0 := hs.below b0
    have hm0 := hm.below b0
    clear e0 hin
    go_enter Try.func67, Try.ntmps67
    go_wp2_with (fail)
    refine (c0 _).mono ?_
    rintro e w' ⟨rfl, rfl⟩
    clear c0
    go_upto_region 3 with fail
    generalize w.alloc (.cells #[.slice a.map.A (List.length x.map) a.map.c, .int .i64 x.div, .int .i64 x.bx, .int .i64 x.by_, .int .i64 x.low, .int .i64 x.high, .slice a.noise.A (List.length x.noise) a.noise.c, .slice a.limits.A (List.length x.limits) a.limits.c] 118) = w0 at *
    go_wp2
    go_loopw [4, 6, 13] (fun v2 _ i wr => ∃ k : Nat, v2 = .bool false ∧ k ≤ ms.length ∧ i = .int .i64 k ∧ Hid (∀ y ∈ ms.take k, modeIn x y = true) ∧ Below w0.heap.size w0 wr) (fun _ _ i _ => ms.length - (intOf i).toNat)
    case atStart => exact ⟨0, rfl, Nat.zero_le _, rfl, by simp [Hid], Below.refl _ _⟩
    case round =>
      obtain ⟨k, rfl, hk, rfl, htk, hbr⟩ := hrel
      have H1 := H0.below hbr
      have b1 := below_tr b0 hbr
      have hs1 := hs0.below hbr
      have l1 := H1.1
      obtain ⟨cH1_0, fH1_0⟩ := H1.2 0 _ rfl
      obtain ⟨cH1_1, fH1_1⟩ := H1.2 1 _ rfl
      obtain ⟨cH1_2, fH1_2⟩ := H1.2 2 _ rfl
      obtain ⟨cH1_3, fH1_3⟩ := H1.2 3 _ rfl
      obtain ⟨cH1_4, fH1_4⟩ := H1.2 4 _ rfl
      obtain ⟨cH1_5, fH1_5⟩ := H1.2 5 _ rfl
      obtain ⟨cH1_6, fH1_6⟩ := H1.2 6 _ rfl
      obtain ⟨cH1_7, fH1_7⟩ := H1.2 7 _ rfl
      by_cases hlt : k < ms.length
      · obtain ⟨b, off, rfl, hblt, hc⟩ := (hm0.below hbr).at_ hlt
        have g0 := hc 0 _ rfl
        have g1 := hc 1 _ rfl
        simp only [Nat.add_zero] at g0
        have hbad := Lib.hid (fun h => @modes_no x ms k hlt h)
        have hgood := Lib.hid (fun h => @modes_all x ms k hlt htk.out h)
        have i1 : (k : Int) < (ms.length : Int) := by omega
        clear hc htk
        generalize ms[k] = m at *
        have hiff := Lib.hid (@modeIn_iff x m)
        by_cases hv : modeIn x m = true
        · have h1 := Lib.hid (hgood.out hv)
          obtain ⟨p1, p2, p3⟩ := hiff.out.1 hv
          clear hbad hgood hiff hv
          go_wp2
          go_roundw
          case rel => exact ⟨k + 1, rfl, by omega, by go_num, h1, by (repeat (first | (with_reducible exact Below.refl _ _) | (with_reducible assumption) | (with_reducible refine below_al ?_ _) | (with_reducible refine Below.drew ?_) | (with_reducible refine below_drewN ?_ _) | (with_reducible refine below_st ?_ ?_ _) | (with_reducible refine below_tr ?_ (by assumption)) | (with_reducible exact Nat.le_refl _) | (focus (simp; done)) | (focus (simp; omega))))⟩
          case measure => simp [intOf]; omega
        · have hv' : modeIn x m = false := by simpa using hv
          have h1 := Lib.hid (show modesOk x ms = false by rw [hdef.out, hbad.out hv']; simp)
          have hv2 : ¬ (x.low ≤ m.low ∧ m.low ≤ m.high ∧ m.high ≤ x.high) := fun h => hv (hiff.out.2 h)
          clear hbad hgood hiff hv hv' hdef
          by_cases p1 : x.low ≤ m.low
          · by_cases p2 : m.low ≤ m.high
            · have p3 : x.high < m.high := by omega
              clear hv2
              go_wp2
              go_ret
              refine ⟨ret_bool h1.out.symm, ?_⟩
              repeat (first | (with_reducible exact Below.refl _ _) | (with_reducible assumption) | (with_reducible refine below_al ?_ _) | (with_reducible refine Below.drew ?_) | (with_reducible refine below_drewN ?_ _) | (with_reducible refine below_st ?_ ?_ _) | (with_reducible refine below_tr ?_ (by assumption)) | (with_reducible exact Nat.le_refl _) | (focus (simp; done)) | (focus (simp; omega)))
            · have p3 : m.high < m.low := by omega
              clear hv2 p2
              go_wp2
              go_ret
              refine ⟨ret_bool h1.out.symm, ?_⟩
              repeat (first | (with_reducible exact Below.refl _ _) | (with_reducible assumption) | (with_reducible refine below_al ?_ _) | (with_reducible refine Below.drew ?_) | (with_reducible refine below_drewN ?_ _) | (with_reducible refine below_st ?_ ?_ _) | (with_reducible refine below_tr ?_ (by assumption)) | (with_reducible exact Nat.le_refl _) | (focus (simp; done)) | (focus (simp; omega)))
          · have p3 : m.low < x.low := by omega
            clear hv2 p1
            go_wp2
            go_ret
            refine ⟨ret_bool h1.out.symm, ?_⟩
            repeat (first | (with_reducible exact Below.refl _ _) | (with_reducible assumption) | (with_reducible refine below_al ?_ _) | (with_reducible refine Below.drew ?_) | (with_reducible refine below_drewN ?_ _) | (with_reducible refine below_st ?_ ?_ _) | (with_reducible refine below_tr ?_ (by assumption)) | (with_reducible exact Nat.le_refl _) | (focus (simp; done)) | (focus (simp; omega)))
      · obtain rfl : k = ms.length := by omega
        have h1 := Lib.hid (show modesOk x ms = roomOk x by rw [hdef.out, modes_yes htk.out]; rfl)
        clear htk hdef
        go_wp2_with (fail)
        refine (cR _ hs1).mono ?_
        rintro e w2 ⟨rfl, hb2⟩
        go_wp2
        go_ret
        refine ⟨ret_bool h1.out.symm, ?_⟩
        repeat (first | (with_reducible exact Below.refl _ _) | (with_reducible assumption) | (with_reducible refine below_al ?_ _) | (with_reducible refine Below.drew ?_) | (with_reducible refine below_drewN ?_ _) | (with_reducible refine below_st ?_ ?_ _) | (with_reducible refine below_tr ?_ (by assumption)) | (with_reducible exact Nat.le_refl _) | (focus (simp; done)) | (focus (simp; omega)))
set_option maxRecDepth 100000 in
set_option maxHeartbeats 4000000 in
theorem sModesOk_c (x : Room) (a : RoomA) (M : Option Addr) (ms : List Mode) (mc : Nat) (w : World) (hn : roomLen x ≤ 1048576) (hin : RoomIn x) (hl : ms.length ≤ 1048576) (hs : RoomSl w x a) (hnl : RoomNil a) (hm : Sl 2 modeC w M ms) :
    Calls Try.prog 64 #[roomV x a, .slice M ms.length mc] w fun e w' => e = .returned (.bool (modesOk x ms)) ∧ Below w.heap.size w w' := by
  have hdef := Lib.hid (show modesOk x ms = (inR ms.length 1 4 && ms.all (modeIn x) && roomOk x) from rfl)
  have c0 := fun W => l01In_c ms.length 1 4 W
  have cR := fun W h => sRoomOk_c x a W hn hin h hnl
  cases eR : roomOk x
  · rw [eR] at cR
    have h1 := Lib.hid (show modesOk x ms = false by rw [hdef.out, eR]; simp)
    clear hdef c0
    go_enter Try.func64, Try.ntmps64
    go_wp2_with (fail)
    refine (cR _ (RoomSl.below hs (by (repeat (first | (with_reducible exact Below.refl _ _) | (with_reducible assumption) | (with_reducible refine below_al ?_ _) | (with_reducible refine Below.drew ?_) | (with_reducible refine below_drewN ?_ _) | (with_reducible refine below_st ?_ ?_ _) | (with_reducible refine below_tr ?_ (by assumption)) | (with_reducible exact Nat.le_refl _) | (focus (simp; done)) | (focus (simp; omega))))))).mono ?_
    rintro e w1 ⟨rfl, hb1⟩
    go_wp2
    go_ret
    refine ⟨ret_bool h1.out.symm, ?_⟩
    repeat (first | (with_reducible exact Below.refl _ _) | (with_reducible assumption) | (with_reducible refine below_al ?_ _) | (with_reducible refine Below.drew ?_) | (with_reducible refine below_drewN ?_ _) | (with_reducible refine below_st ?_ ?_ _) | (with_reducible refine below_tr ?_ (by assumption)) | (with_reducible exact Nat.le_refl _) | (focus (simp; done)) | (focus (simp; omega)))
  · rw [eR] at cR
    rw [eR] at hdef
    cases e0 : inR ms.length 1 4
    · rw [e0] at c0
      have h1 := Lib.hid (show modesOk x ms = false by rw [hdef.out, e0]; rfl)
      clear hdef
      go_enter Try.func64, Try.ntmps64
      go_wp2_with (fail)
      refine (cR _ (RoomSl.below hs (by (repeat (first | (with_reducible exact Below.refl _ _) | (with_reducible assumption) | (with_reducible refine below_al ?_ _) | (with_reducible refine Below.drew ?_) | (with_reducible refine below_drewN ?_ _) | (with_reducible refine below_st ?_ ?_ _) | (with_reducible refine below_tr ?_ (by assumption)) | (with_reducible exact Nat.le_refl _) | (focus (simp; done)) | (focus (simp; omega))))))).mono ?_
      rintro e w1 ⟨rfl, hb1⟩
      go_wp2_with (fail)
      refine (c0 _).mono ?_
      rintro e w' ⟨rfl, rfl⟩
      go_wp2
      go_ret
      refine ⟨ret_bool h1.out.symm, ?_⟩
      repeat (first | (with_reducible exact Below.refl _ _) | (with_reducible assumption) | (with_reducible refine below_al ?_ _) | (with_reducible refine Below.drew ?_) | (with_reducible refine below_drewN ?_ _) | (with_reducible refine below_st ?_ ?_ _) | (with_reducible refine below_tr ?_ (by assumption)) | (with_reducible exact Nat.le_refl _) | (focus (simp; done)) | (focus (simp; omega)))
    · rw [e0] at c0
      rw [e0] at hdef
      have H0 : Has (w.alloc (.cells #[.slice a.map.A (List.length x.map) a.map.c, .int .i64 x.div, .int .i64 x.bx, .int .i64 x.by_, .int .i64 x.low, .int .i64 x.high, .slice a.noise.A (List.length x.noise) a.noise.c, .slice a.limits.A (List.length x.limits) a.limits.c] 118)) w.heap.size [.slice a.map.A (List.length x.map) a.map.c, .int .i64 x.div, .int .i64 x.bx, .int .i64 x.by_, .int .i64 x.low, .int .i64 x.high, .slice a.noise.A (List.length x.noise) a.noise.c, .slice a.limits.A (List.length x.limits) a.limits.c] := by
        repeat (first | ((with_reducible refine Has.new_at ?_ _ _ rfl); (first | rfl | (focus (simp; done)))) | (with_reducible refine Has.set_ ?_ ?_ _) | (with_reducible refine Has.alloc ?_ _) | (with_reducible refine Has.below ?_ (by assumption)) | (focus (simp; done)) | (focus (simp; omega)))
      have b0 : Below w.heap.size w (w.alloc (.cells #[.slice a.map.A (List.length x.map) a.map.c, .int .i64 x.div, .int .i64 x.bx, .int .i64 x.by_, .int .i64 x.low, .int .i64 x.high, .slice a.noise.A (List.length x.noise) a.noise.c, .slice a.limits.A (List.length x.limits) a.limits.c] 118)) := by
        repeat (first | (with_reducible exact Below.refl _ _) | (with_reducible assumption) | (with_reducible refine below_al ?_ _) | (with_reducible refine Below.drew ?_) | (with_reducible refine below_drewN ?_ _) | (with_reducible refine below_st ?_ ?_ _) | (with_reducible refine below_tr ?_ (by assumption)) | (with_reducible exact Nat.le_refl _) | (focus (simp; done)) | (focus (simp; omega)))
      have hm0 := hm.below b0
      clear e0 eR hin
      go_enter Try.func64, Try.ntmps64
      go_wp2_with (fail)
      refine (cR _ (RoomSl.below hs (by (repeat (first | (with_reducible exact Below.refl _ _) | (with_reducible assumption) | (with_reducible refine below_al ?_ _) | (with_reducible refine Below.drew ?_) | (with_reducible refine below_drewN ?_ _) | (with_reducible refine below_st ?_ ?_ _) | (with_reducible refine below_tr ?_ (by assumption)) | (with_reducible exact Nat.le_refl _) | (focus (simp; done)) | (focus (simp; omega))))))).mono ?_
      rintro e w1 ⟨rfl, hb1⟩
      go_wp2_with (fail)
      refine (c0 _).mono ?_
      rintro e w' ⟨rfl, rfl⟩
      have H0' := H0.below hb1
      have b0' := below_tr b0 hb1
      have hm0' := hm0.below hb1
      clear c0 cR H0 b0 hm0 hb1
      go_upto_region 3 with fail
      go_wp2
      go_loopw [4, 6, 18] (fun v2 _ i wr => ∃ k : Nat, v2 = .bool false ∧ k ≤ ms.length ∧ i = .int .i64 k ∧ Hid (∀ y ∈ ms.take k, modeIn x y = true) ∧ Below w1.heap.size w1 wr) (fun _ _ i _ => ms.length - (intOf i).toNat)
      case atStart => exact ⟨0, rfl, Nat.zero_le _, rfl, by simp [Hid], Below.refl _ _⟩
      case round =>
        obtain ⟨k, rfl, hk, rfl, htk, hbr⟩ := hrel
        have H1 := H0'.below hbr
        have b1 := below_tr b0' hbr
        have l1 := H1.1
        obtain ⟨cH1_0, fH1_0⟩ := H1.2 0 _ rfl
        obtain ⟨cH1_1, fH1_1⟩ := H1.2 1 _ rfl
        obtain ⟨cH1_2, fH1_2⟩ := H1.2 2 _ rfl
        obtain ⟨cH1_3, fH1_3⟩ := H1.2 3 _ rfl
        obtain ⟨cH1_4, fH1_4⟩ := H1.2 4 _ rfl
        obtain ⟨cH1_5, fH1_5⟩ := H1.2 5 _ rfl
        obtain ⟨cH1_6, fH1_6⟩ := H1.2 6 _ rfl
        obtain ⟨cH1_7, fH1_7⟩ := H1.2 7 _ rfl
        by_cases hlt : k < ms.length
        · obtain ⟨b, off, rfl, hblt, hc⟩ := (hm0'.below hbr).at_ hlt
          have g0 := hc 0 _ rfl
          have g1 := hc 1 _ rfl
          simp only [Nat.add_zero] at g0
          have hbad := Lib.hid (fun h => @modes_no x ms k hlt h)
          have hgood := Lib.hid (fun h => @modes_all x ms k hlt htk.out h)
          have i1 : (k : Int) < (ms.length : Int) := by omega
          clear hc htk
          generalize ms[k] = m at *
          have c2 := fun W => l01In_c m.low x.low x.high W
          have c3 := fun W => l01In_c m.high m.low x.high W
          have hin := Lib.hid (show modeIn x m = (inR m.low x.low x.high && inR m.high m.low x.high) from rfl)
          cases e2 : inR m.low x.low x.high
          · rw [e2] at c2
            have h1 := Lib.hid (show modesOk x ms = false by rw [hdef.out, hbad.out (by rw [hin.out, e2]; rfl)]; simp)
            clear hbad hgood hin hdef
            go_wp2_with (fail)
            refine (c2 _).mono ?_
            rintro e w' ⟨rfl, rfl⟩
            go_wp2
            go_ret
            refine ⟨ret_bool h1.out.symm, ?_⟩
            repeat (first | (with_reducible exact Below.refl _ _) | (with_reducible assumption) | (with_reducible refine below_al ?_ _) | (with_reducible refine Below.drew ?_) | (with_reducible refine below_drewN ?_ _) | (with_reducible refine below_st ?_ ?_ _) | (with_reducible refine below_tr ?_ (by assumption)) | (with_reducible exact Nat.le_refl _) | (focus (simp; done)) | (focus (simp; omega)))
          · rw [e2] at c2
            cases e3 : inR m.high m.low x.high
            · rw [e3] at c3
              have h1 := Lib.hid (show modesOk x ms = false by rw [hdef.out, hbad.out (by rw [hin.out, e2, e3]; rfl)]; simp)
              clear hbad hgood hin hdef
              go_wp2_with (fail)
              refine (c2 _).mono ?_
              rintro e w' ⟨rfl, rfl⟩
              go_wp2_with (fail)
              refine (c3 _).mono ?_
              rintro e w' ⟨rfl, rfl⟩
              go_wp2
              go_ret
              refine ⟨ret_bool h1.out.symm, ?_⟩
              repeat (first | (with_reducible exact Below.refl _ _) | (with_reducible assumption) | (with_reducible refine below_al ?_ _) | (with_reducible refine Below.drew ?_) | (with_reducible refine below_drewN ?_ _) | (with_reducible refine below_st ?_ ?_ _) | (with_reducible refine below_tr ?_ (by assumption)) | (with_reducible exact Nat.le_refl _) | (focus (simp; done)) | (focus (simp; omega)))
            · rw [e3] at c3
              have h1 := Lib.hid (hgood.out (by rw [hin.out, e2, e3]; rfl))
              clear hbad hgood hin hdef
              go_wp2_with (fail)
              refine (c2 _).mono ?_
              rintro e w' ⟨rfl, rfl⟩
              go_wp2_with (fail)
              refine (c3 _).mono ?_
              rintro e w' ⟨rfl, rfl⟩
              go_wp2
              go_roundw
              case rel => exact ⟨k + 1, rfl, by omega, by go_num, h1, by (repeat (first | (with_reducible exact Below.refl _ _) | (with_reducible assumption) | (with_reducible refine below_al ?_ _) | (with_reducible refine Below.drew ?_) | (with_reducible refine below_drewN ?_ _) | (with_reducible refine below_st ?_ ?_ _) | (with_reducible refine below_tr ?_ (by assumption)) | (with_reducible exact Nat.le_refl _) | (focus (simp; done)) | (focus (simp; omega))))⟩
              case measure => simp [intOf]; omega
        · obtain rfl : k = ms.length := by omega
          have h1 := Lib.hid (show modesOk x ms = true by rw [hdef.out, modes_yes htk.out]; rfl)
          clear htk hdef
          go_wp2
          go_ret
          refine ⟨ret_bool h1.out.symm, ?_⟩
          repeat (first | (with_reducible exact Below.refl _ _) | (with_reducible assumption) | (with_reducible refine below_al ?_ _) | (with_reducible refine Below.drew ?_) | (with_reducible refine below_drewN ?_ _) | (with_reducible refine below_st ?_ ?_ _) | (with_reducible refine below_tr ?_ (by assumption)) | (with_reducible exact Nat.le_refl _) | (focus (simp; done)) | (focus (simp; omega)))
end Go.Proofs.Ytbdihgcjopbnjaa
