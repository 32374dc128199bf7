/-
  PieceAt of the program and of the reference return the same.
  Conditions: the numbers are ints of the machine.
-/
import Derived.Test.YtbdihgcjopbnjaaNum6
import Derived.Test.YtbdihgcjopbnjaaNum7
namespace Go.Proofs.Ytbdihgcjopbnjaa
open Go.RowKit

theorem mul_bd_ {a b A B : Int} (ha : -A ≤ a ∧ a ≤ A) (hb : -B ≤ b ∧ b ≤ B) : -(A * B) ≤ a * b ∧ a * b ≤ A * B := by
  have hA : a.natAbs ≤ A.natAbs := by omega
  have hB : b.natAbs ≤ B.natAbs := by omega
  have hm := Nat.mul_le_mul hA hB
  rw [← Int.natAbs_mul, ← Int.natAbs_mul] at hm
  have hAB : 0 ≤ A * B := Int.mul_nonneg (by omega) (by omega)
  omega

/-- A fraction, and whether it is valid. -/
abbrev ratV (r : Ratio) (ok : Bool) : Value := .tuple #[.agg #[.int .i64 r.n, .int .i64 r.d], .bool ok]

theorem ratioOf_In (n d : Int) : (ratioOf n d).In := by
  by_cases h : ratioOk (ratioOf n d) = true
  · have := ratioOk_iff.1 h
    exact ⟨⟨by omega, by omega⟩, ⟨by omega, by omega⟩⟩
  · have : ratioOf n d = ratio0 := by
      apply Classical.byContradiction
      intro h2
      exact h (ratioOf_ok.2 h2)
    rw [this]
    exact ⟨⟨by decide, by decide⟩, ⟨by decide, by decide⟩⟩

structure PB (q : Piece) (s : Spot) : Prop where
  a : -1000000000000000000 ≤ q.a * s.x ∧ q.a * s.x ≤ 1000000000000000000
  b : -1000000000000000000 ≤ q.b * s.y ∧ q.b * s.y ≤ 1000000000000000000
  c : -1000000000000000 ≤ q.c * s.d ∧ q.c * s.d ≤ 1000000000000000
  d : -1000000000000000 ≤ q.d * s.d ∧ q.d * s.d ≤ 1000000000000000
theorem pieceBounds {q : Piece} {s : Spot} (hq : pieceOk q = true) (hs : spotOk s = true) (hd : s.d ≤ 1000) : PB q s := by
  obtain ⟨q1, q2, q3, q4, _⟩ := pieceOk_iff.1 hq
  obtain ⟨s1, s2, s3, _⟩ := spotOk_iff.1 hs
  have a := mul_bd_ (A := 1000000000000) (B := 1000000) (a := q.a) (b := s.x) (by omega) (by omega)
  have b := mul_bd_ (A := 1000000000000) (B := 1000000) (a := q.b) (b := s.y) (by omega) (by omega)
  have c := mul_bd_ (A := 1000000000000) (B := 1000) (a := q.c) (b := s.d) (by omega) (by omega)
  have d := mul_bd_ (A := 1000000000000) (B := 1000) (a := q.d) (b := s.d) (by omega) (by omega)
  exact ⟨by omega, by omega, by omega, by omega⟩

theorem heap_size_setCells (b : Nat) : ∀ (vs : List Value) (o : Nat) (w : World), (w.setCells b o vs).heap.size = w.heap.size
  | [], _, _ => rfl
  | v :: r, o, w => by rw [World.setCells, heap_size_setCells b r]; simp [World.setCell]
/-- A block written over. -/
theorem Has.stored {w : World} {g : Nat} {vs : List Value} (h : Has w g vs) (us : List Value) (hl : us.length = vs.length) : Has (w.setCells g 0 us) g us := by
  refine ⟨by rw [heap_size_setCells]; exact h.1, fun j v hv => ?_⟩
  have hj : j < us.length := by
    rcases Nat.lt_or_ge j us.length with h | h
    · exact h
    · rw [List.getElem?_eq_none h] at hv; cases hv
  constructor
  · have := World.cell?_setCells_in g us 0 w (fun k hk => by rw [Nat.zero_add, (h.2 k _ (List.getElem?_eq_getElem (by omega))).1]; rfl) j hj
    rw [Nat.zero_add] at this
    rw [this, ← hv, List.getElem?_eq_getElem hj]
  · rw [World.frozen?_setCells]
    exact (h.2 j _ (List.getElem?_eq_getElem (by omega))).2

set_option maxRecDepth 100000 in
set_option maxHeartbeats 2000000 in
theorem ipieceAt_c (q : Piece) (s : Spot) (w : World) (hq : pieceOk q = true) (hs : spotOk s = true) :
    Calls Try.prog 162 #[pieceV q, spotV s] w fun e w' => e = .returned (ratV (pieceVal q s) (ratioOk (pieceVal q s))) ∧ Below w.heap.size w w' := by
  by_cases hd : 1000 < s.d
  · have hfin : pieceVal q s = ratio0 := by simp [pieceVal, hd]
    rw [hfin, ratioOk_zero]
    go_enter Try.func162, Try.ntmps162
    go_wp2
    refine bodyPost_ret (v := .tuple #[.agg #[.int .i64 0, .int .i64 0], .bool false]) (by simp [results, Try.results162, go_sem]) rfl ⟨rfl, ?_⟩
    repeat (first | (with_reducible exact Below.refl _ _) | (with_reducible assumption) | (with_reducible refine below_al ?_ _) | (with_reducible refine Below.drew ?_) | (with_reducible refine below_drewN ?_ _) | (with_reducible refine below_st ?_ ?_ _) | (with_reducible refine below_tr ?_ (by assumption)) | (with_reducible exact Nat.le_refl _) | (focus (simp; done)) | (focus (simp; omega)))
  · have hfin : pieceVal q s = ratioOf (q.a * s.x + q.b * s.y + q.c * s.d) (q.d * s.d) := by simp [pieceVal, hd]
    rw [hfin]
    obtain ⟨⟨a1, a2⟩, ⟨b1, b2⟩, ⟨c1, c2⟩, ⟨d1, d2⟩⟩ := pieceBounds hq hs (by omega)
    have k1 := fun W => iRatioOf_c (q.a * s.x + q.b * s.y + q.c * s.d) (q.d * s.d) W ⟨by omega, by omega⟩ ⟨by omega, by omega⟩
    have hin := ratioOf_In (q.a * s.x + q.b * s.y + q.c * s.d) (q.d * s.d)
    have k2 := fun W => iRatioOk_c (ratioOf (q.a * s.x + q.b * s.y + q.c * s.d) (q.d * s.d)) W hin
    clear hfin hin hq hs
    revert k1 k2
    generalize ratioOf (q.a * s.x + q.b * s.y + q.c * s.d) (q.d * s.d) = r
    generalize ratioOk r = ok
    intro k1 k2
    go_enter Try.func162, Try.ntmps162
    go_wp2_with (fail)
    refine (k1 _).mono ?_
    rintro e w1 ⟨rfl, hb1⟩
    have H1 : Has w1 (w.heap.size + 1 + 1) [.int .i64 0, .int .i64 0] := by
      refine Has.below ?_ hb1
      have := Has.new ((w.alloc (.cells #[.int .i64 q.a, .int .i64 q.b, .int .i64 q.c, .int .i64 q.d] 193)).alloc (.cells #[.int .i64 s.x, .int .i64 s.y, .int .i64 s.d] 65)) #[.int .i64 0, .int .i64 0] 41
      simp only [World.size_alloc] at this
      exact this
    have hbw := below_tr (below_al (below_al (below_al (Below.refl w.heap.size w) _) _) _) hb1
    have hlt1 := H1.1
    go_wp2
    have H2 := H1.alloc (.cells #[.int .i64 r.n, .int .i64 r.d] 41)
    have hbw2 := below_al hbw (.cells #[.int .i64 r.n, .int .i64 r.d] 41)
    have H3 := Has.new w1 #[.int .i64 r.n, .int .i64 r.d] 41
    generalize hg6 : w1.heap.size = g6 at *
    generalize hW : w1.alloc (.cells #[.int .i64 r.n, .int .i64 r.d] 41) = W at *
    clear hW hg6 hb1 H1 hbw
    obtain ⟨cH2_0, fH2_0⟩ := H2.2 0 _ rfl
    obtain ⟨cH2_1, fH2_1⟩ := H2.2 1 _ rfl
    obtain ⟨cH3_0, fH3_0⟩ := H3.2 0 _ rfl
    obtain ⟨cH3_1, fH3_1⟩ := H3.2 1 _ rfl
    have hlt6 := H3.1
    have hlt4 := H2.1
    have H2' := Lib.hid H2
    have H3' := Lib.hid H3
    have hne : w.heap.size + 1 + 1 ≠ g6 := by omega
    clear H2 H3
    go_region_held3 (fun w' => w'.cell? ⟨g6, 0, none⟩ = some (.int .i64 r.n) ∧ w'.cell? ⟨g6, 1, none⟩ = some (.int .i64 r.d)) (first | go_keep | (refine ⟨(hb2.cell (p := ⟨g6, 0, none⟩) (by simpa [World.setCell] using hlt6)).trans ?_, (hb2.cell (p := ⟨g6, 1, none⟩) (by simpa [World.setCell] using hlt6)).trans ?_⟩ <;> go_keep))
      (first | (go_at_call 94; refine (k2 _).mono ?_; rintro e w2 ⟨rfl, hb2⟩; first | (have T4 : Has w2 (w.heap.size + 1 + 1) [.int .i64 0, .int .i64 0] := Has.below (by exact H2'.out) hb2; obtain ⟨c20, f20⟩ := T4.2 0 _ rfl; obtain ⟨c21, f21⟩ := T4.2 1 _ rfl) | (have T4 : Has w2 (w.heap.size + 1 + 1) [.int .i64 r.n, .int .i64 r.d] := Has.below (by exact H2'.out.stored [.int .i64 r.n, .int .i64 r.d] rfl) hb2; obtain ⟨c20, f20⟩ := T4.2 0 _ rfl; obtain ⟨c21, f21⟩ := T4.2 1 _ rfl)))
    all_goals go_wp2
    refine bodyPost_ret (v := .tuple #[.agg #[.int .i64 r.n, .int .i64 r.d], .bool ok]) (by simp [results, Try.results162, go_sem, *]) rfl ⟨rfl, ?_⟩
    have hbw3 := below_tr hbw2.drew hb2
    repeat (first | (with_reducible exact Below.refl _ _) | (with_reducible assumption) | (with_reducible refine below_al ?_ _) | (with_reducible refine Below.drew ?_) | (with_reducible refine below_drewN ?_ _) | (with_reducible refine below_st ?_ ?_ _) | (with_reducible refine below_tr ?_ (by assumption)) | (with_reducible exact Nat.le_refl _) | (focus (simp; done)) | (focus (simp; omega)))

set_option maxRecDepth 100000 in
set_option maxHeartbeats 4000000 in
theorem sPieceAt_c (q : Piece) (s : Spot) (w : World) (hq : q.In) (hs : s.In) :
    Calls Try.prog 159 #[pieceV q, spotV s] w fun e w' => e = .returned (ratV (pieceAt q s) (ratioOk (pieceAt q s))) ∧ Below w.heap.size w w' := by
  have k1 := fun W => sPieceOk_c q W hq
  have k2 := fun W => sSpotOk_c s W hs
  have hpb := fun h1 h2 => @pieceBounds q s h1 h2
  have hfin : Hid (pieceAt q s = if pieceOk q = true ∧ spotOk s = true then pieceVal q s else ratio0) := rfl
  have HA := Has.new w #[.int .i64 q.a, .int .i64 q.b, .int .i64 q.c, .int .i64 q.d] 193
  have HB := Has.new (w.alloc (.cells #[.int .i64 q.a, .int .i64 q.b, .int .i64 q.c, .int .i64 q.d] 193)) #[.int .i64 s.x, .int .i64 s.y, .int .i64 s.d] 65
  have HC := Has.new ((w.alloc (.cells #[.int .i64 q.a, .int .i64 q.b, .int .i64 q.c, .int .i64 q.d] 193)).alloc (.cells #[.int .i64 s.x, .int .i64 s.y, .int .i64 s.d] 65)) #[.int .i64 0, .int .i64 0] 41
  simp only [World.size_alloc] at HB HC
  generalize pieceOk q = b1 at *
  generalize spotOk s = b2 at *
  cases b1
  · clear hpb
    go_enter Try.func159, Try.ntmps159
    go_wp2_with (fail)
    refine (k1 _).mono ?_
    rintro e w1 ⟨rfl, hb1⟩
    have H1 := HC.below hb1
    have hbw := below_tr (below_al (below_al (below_al (Below.refl w.heap.size w) _) _) _) hb1
    obtain ⟨cH1_0, fH1_0⟩ := H1.2 0 _ rfl
    obtain ⟨cH1_1, fH1_1⟩ := H1.2 1 _ rfl
    go_wp2
    refine bodyPost_ret (v := .tuple #[.agg #[.int .i64 0, .int .i64 0], .bool false]) (by simp [results, Try.results159, go_sem, *]) rfl ⟨by rw [hfin.out]; rfl, ?_⟩
    repeat (first | (with_reducible exact Below.refl _ _) | (with_reducible assumption) | (with_reducible refine below_al ?_ _) | (with_reducible refine Below.drew ?_) | (with_reducible refine below_drewN ?_ _) | (with_reducible refine below_st ?_ ?_ _) | (with_reducible refine below_tr ?_ (by assumption)) | (with_reducible exact Nat.le_refl _) | (focus (simp; done)) | (focus (simp; omega)))
  · cases b2
    · clear hpb
      go_enter Try.func159, Try.ntmps159
      go_wp2_with (fail)
      refine (k1 _).mono ?_
      rintro e w1 ⟨rfl, hb1⟩
      have H1 := HC.below hb1
      have H2 := ((HB.alloc _).below hb1)
      have hbw := below_tr (below_al (below_al (below_al (Below.refl w.heap.size w) _) _) _) hb1
      obtain ⟨cH2_0, fH2_0⟩ := H2.2 0 _ rfl
      obtain ⟨cH2_1, fH2_1⟩ := H2.2 1 _ rfl
      obtain ⟨cH2_2, fH2_2⟩ := H2.2 2 _ rfl
      go_wp2_with (fail)
      refine (k2 _).mono ?_
      rintro e w2 ⟨rfl, hb2⟩
      have H3 := H1.below hb2
      have hbw2 := below_tr hbw hb2
      obtain ⟨cH3_0, fH3_0⟩ := H3.2 0 _ rfl
      obtain ⟨cH3_1, fH3_1⟩ := H3.2 1 _ rfl
      go_wp2
      refine bodyPost_ret (v := .tuple #[.agg #[.int .i64 0, .int .i64 0], .bool false]) (by simp [results, Try.results159, go_sem, *]) rfl ⟨by rw [hfin.out]; rfl, ?_⟩
      repeat (first | (with_reducible exact Below.refl _ _) | (with_reducible assumption) | (with_reducible refine below_al ?_ _) | (with_reducible refine Below.drew ?_) | (with_reducible refine below_drewN ?_ _) | (with_reducible refine below_st ?_ ?_ _) | (with_reducible refine below_tr ?_ (by assumption)) | (with_reducible exact Nat.le_refl _) | (focus (simp; done)) | (focus (simp; omega)))
    · have hfin2 : Hid (pieceAt q s = pieceVal q s) := hfin.out
      rw [hfin2.out]
      clear hfin hfin2
      by_cases hd : 1000 < s.d
      · have hv : pieceVal q s = ratio0 := by simp [pieceVal, hd]
        rw [hv, ratioOk_zero]
        clear hpb hv
        go_enter Try.func159, Try.ntmps159
        go_wp2_with (fail)
        refine (k1 _).mono ?_
        rintro e w1 ⟨rfl, hb1⟩
        have H1 := HC.below hb1
        have H2 := ((HB.alloc _).below hb1)
        have hbw := below_tr (below_al (below_al (below_al (Below.refl w.heap.size w) _) _) _) hb1
        obtain ⟨cH2_0, fH2_0⟩ := H2.2 0 _ rfl
        obtain ⟨cH2_1, fH2_1⟩ := H2.2 1 _ rfl
        obtain ⟨cH2_2, fH2_2⟩ := H2.2 2 _ rfl
        go_wp2_with (fail)
        refine (k2 _).mono ?_
        rintro e w2 ⟨rfl, hb2⟩
        have H3 := H1.below hb2
        have H4 := H2.below hb2
        have hbw2 := below_tr hbw hb2
        clear cH2_0 cH2_1 cH2_2 fH2_0 fH2_1 fH2_2
        obtain ⟨cH3_0, fH3_0⟩ := H3.2 0 _ rfl
        obtain ⟨cH3_1, fH3_1⟩ := H3.2 1 _ rfl
        obtain ⟨cH4_0, fH4_0⟩ := H4.2 0 _ rfl
        obtain ⟨cH4_1, fH4_1⟩ := H4.2 1 _ rfl
        obtain ⟨cH4_2, fH4_2⟩ := H4.2 2 _ rfl
        go_wp2
        refine bodyPost_ret (v := .tuple #[.agg #[.int .i64 0, .int .i64 0], .bool false]) (by simp [results, Try.results159, go_sem, *]) rfl ⟨rfl, ?_⟩
        repeat (first | (with_reducible exact Below.refl _ _) | (with_reducible assumption) | (with_reducible refine below_al ?_ _) | (with_reducible refine Below.drew ?_) | (with_reducible refine below_drewN ?_ _) | (with_reducible refine below_st ?_ ?_ _) | (with_reducible refine below_tr ?_ (by assumption)) | (with_reducible exact Nat.le_refl _) | (focus (simp; done)) | (focus (simp; omega)))
      · have hv : pieceVal q s = ratioOf (q.a * s.x + q.b * s.y + q.c * s.d) (q.d * s.d) := by simp [pieceVal, hd]
        rw [hv]
        obtain ⟨⟨a1, a2⟩, ⟨b1, b2⟩, ⟨c1, c2⟩, ⟨d1, d2⟩⟩ := hpb rfl rfl (by omega)
        have k3 := fun W => sRatioOf_c (q.a * s.x + q.b * s.y + q.c * s.d) (q.d * s.d) W ⟨by omega, by omega⟩ ⟨by omega, by omega⟩
        have hin := ratioOf_In (q.a * s.x + q.b * s.y + q.c * s.d) (q.d * s.d)
        have k4 := fun W => sRatioOk_c (ratioOf (q.a * s.x + q.b * s.y + q.c * s.d) (q.d * s.d)) W hin
        clear hv hin hq hs hpb
        revert k3 k4
        generalize ratioOf (q.a * s.x + q.b * s.y + q.c * s.d) (q.d * s.d) = r
        generalize ratioOk r = ok
        intro k3 k4
        go_enter Try.func159, Try.ntmps159
        go_wp2_with (fail)
        refine (k1 _).mono ?_
        rintro e w1 ⟨rfl, hb1⟩
        have H1 := HC.below hb1
        have H2 := ((HB.alloc _).below hb1)
        have H3 := (((HA.alloc _).alloc _).below hb1)
        have hbw := below_tr (below_al (below_al (below_al (Below.refl w.heap.size w) _) _) _) hb1
        obtain ⟨cH2_0, fH2_0⟩ := H2.2 0 _ rfl
        obtain ⟨cH2_1, fH2_1⟩ := H2.2 1 _ rfl
        obtain ⟨cH2_2, fH2_2⟩ := H2.2 2 _ rfl
        go_wp2_with (fail)
        refine (k2 _).mono ?_
        rintro e w2 ⟨rfl, hb2⟩
        have H4 := H1.below hb2
        have H5 := H2.below hb2
        have H6 := H3.below hb2
        have hbw2 := below_tr hbw hb2
        clear cH2_0 cH2_1 cH2_2 fH2_0 fH2_1 fH2_2
        obtain ⟨cH5_0, fH5_0⟩ := H5.2 0 _ rfl
        obtain ⟨cH5_1, fH5_1⟩ := H5.2 1 _ rfl
        obtain ⟨cH5_2, fH5_2⟩ := H5.2 2 _ rfl
        obtain ⟨cH6_0, fH6_0⟩ := H6.2 0 _ rfl
        obtain ⟨cH6_1, fH6_1⟩ := H6.2 1 _ rfl
        obtain ⟨cH6_2, fH6_2⟩ := H6.2 2 _ rfl
        obtain ⟨cH6_3, fH6_3⟩ := H6.2 3 _ rfl
        go_wp2_with (fail)
        refine (k3 _).mono ?_
        rintro e w3 ⟨rfl, hb3⟩
        have H7 := H4.below hb3
        have hbw3 := below_tr hbw2 hb3
        clear cH5_0 cH5_1 cH5_2 fH5_0 fH5_1 fH5_2 cH6_0 cH6_1 cH6_2 fH6_0 fH6_1 fH6_2 cH6_3 fH6_3
        have hlt1 := H7.1
        go_wp2
        have H8 := H7.alloc (.cells #[.int .i64 r.n, .int .i64 r.d] 41)
        have hbw4 := below_al hbw3 (.cells #[.int .i64 r.n, .int .i64 r.d] 41)
        have H9 := Has.new w3 #[.int .i64 r.n, .int .i64 r.d] 41
        clear H1 H2 H3 H4 H5 H6 H7 hb1 hb2 hbw hbw2 hbw3 HA HB HC hb3
        generalize hg6 : w3.heap.size = g6 at *
        generalize hW : w3.alloc (.cells #[.int .i64 r.n, .int .i64 r.d] 41) = W at *
        clear hW hg6
        obtain ⟨cH8_0, fH8_0⟩ := H8.2 0 _ rfl
        obtain ⟨cH8_1, fH8_1⟩ := H8.2 1 _ rfl
        obtain ⟨cH9_0, fH9_0⟩ := H9.2 0 _ rfl
        obtain ⟨cH9_1, fH9_1⟩ := H9.2 1 _ rfl
        have hlt6 := H9.1
        have hlt4 := H8.1
        have H2' := Lib.hid H8
        have H3' := Lib.hid H9
        have hne : w.heap.size + 1 + 1 ≠ g6 := by omega
        clear H8 H9
        go_region_held3 (fun w' => w'.cell? ⟨g6, 0, none⟩ = some (.int .i64 r.n) ∧ w'.cell? ⟨g6, 1, none⟩ = some (.int .i64 r.d)) (first | go_keep | (refine ⟨(hb2.cell (p := ⟨g6, 0, none⟩) (by simpa [World.setCell] using hlt6)).trans ?_, (hb2.cell (p := ⟨g6, 1, none⟩) (by simpa [World.setCell] using hlt6)).trans ?_⟩ <;> go_keep))
          (first | (go_at_call 89; refine (k4 _).mono ?_; rintro e w2 ⟨rfl, hb2⟩; first | (have T4 : Has w2 (w.heap.size + 1 + 1) [.int .i64 0, .int .i64 0] := Has.below (by exact H2'.out) hb2; obtain ⟨c20, f20⟩ := T4.2 0 _ rfl; obtain ⟨c21, f21⟩ := T4.2 1 _ rfl) | (have T4 : Has w2 (w.heap.size + 1 + 1) [.int .i64 r.n, .int .i64 r.d] := Has.below (by exact H2'.out.stored [.int .i64 r.n, .int .i64 r.d] rfl) hb2; obtain ⟨c20, f20⟩ := T4.2 0 _ rfl; obtain ⟨c21, f21⟩ := T4.2 1 _ rfl)))
        all_goals go_wp2
        refine bodyPost_ret (v := .tuple #[.agg #[.int .i64 r.n, .int .i64 r.d], .bool ok]) (by simp [results, Try.results159, go_sem, *]) rfl ⟨rfl, ?_⟩
        have hbw5 := below_tr hbw4.drew hb2
        repeat (first | (with_reducible exact Below.refl _ _) | (with_reducible assumption) | (with_reducible refine below_al ?_ _) | (with_reducible refine Below.drew ?_) | (with_reducible refine below_drewN ?_ _) | (with_reducible refine below_st ?_ ?_ _) | (with_reducible refine below_tr ?_ (by assumption)) | (with_reducible exact Nat.le_refl _) | (focus (simp; done)) | (focus (simp; omega)))
end Go.Proofs.Ytbdihgcjopbnjaa
