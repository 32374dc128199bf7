/-
  PredictRange: of the program and of the reference.
  Conditions: the slice holds at most 2^20 elements.
-/
import Derived.Test.YtbdihgcjopbnjaaFar
import Derived.Test.YtbdihgcjopbnjaaFarI
import Derived.Test.YtbdihgcjopbnjaaGrL
import Derived.Test.YtbdihgcjopbnjaaGeo9
import Derived.Test.YtbdihgcjopbnjaaInvK
namespace Go.Proofs.Ytbdihgcjopbnjaa
open Go.RowKit

def predOkP (ok : Bool) (p : List Half) (b i : Int) : Bool := ok && !decide (p.length = 0) && inR b (-1000) 1000 && inR i (-1000) 1000
def predP (ok : Bool) (p : List Half) (b i : Int) : Ratio × Ratio := if predOkP ok p b i = true then (ratioOf (-(sup p (-b) (-i)).n) (100 * (sup p (-b) (-i)).d), ratioOf (sup p b i).n (100 * (sup p b i).d)) else (ratio0, ratio0)
def predOk (xs : List Record) (err b i : Int) : Bool := predOkP (fitOk xs err) (fitR xs err) b i
def predR (xs : List Record) (err b i : Int) : Ratio × Ratio := predP (fitOk xs err) (fitR xs err) b i
theorem predP_no {ok : Bool} {p : List Half} {b i : Int} (h : predOkP ok p b i = false) : predP ok p b i = (ratio0, ratio0) := by
  unfold predP; rw [h]; rfl
theorem predP_yes {ok : Bool} {p : List Half} {b i : Int} (h : predOkP ok p b i = true) : predP ok p b i = (ratioOf (-(sup p (-b) (-i)).n) (100 * (sup p (-b) (-i)).d), ratioOf (sup p b i).n (100 * (sup p b i).d)) := if_pos h
theorem fitR_ok (xs : List Record) (err : Int) : regionOk (fitR xs err) = true := by
  unfold fitR
  split
  · rename_i h
    have h1 := h.1
    simp only [fitOk, recordsOk, Bool.and_eq_true, decide_eq_true_eq] at h1
    have := meetI_len (meetL (fitHs xs err))
    have := meetL_len (fitHs xs err)
    have := fitHs_len xs err
    exact regionOk_meet fitHs_ok (by omega)
  · rfl
theorem HasT.alloc {w : World} {g T : Nat} {vs : List Value} (h : HasT w g T vs) (o : Obj) : HasT (w.alloc o) g T vs := h.below (below_al (Below.refl _ _) o)
theorem ratioOf_in5 {n d : Int} (h1 : -500000000000000000 ≤ n ∧ n ≤ 500000000000000000) (h2 : 1 ≤ d ∧ d ≤ 5000000000) : In64 n ∧ In64 (-n) ∧ In64 (100 * d) := ⟨⟨by omega, by omega⟩, ⟨by omega, by omega⟩, ⟨by omega, by omega⟩⟩
set_option maxRecDepth 100000 in
theorem iHundredth_c (r : Ratio) (t : Int) (w : World) (h1 : -500000000000000000 ≤ r.n ∧ r.n ≤ 500000000000000000) (h2 : 1 ≤ r.d ∧ r.d ≤ 5000000000) (ht : t = 1 ∨ t = -1) :
    Calls Try.prog 127 #[ratioV r, .int .i64 t] w fun e w' => e = .returned (ratioV (ratioOf (r.n * t) (100 * r.d))) ∧ Below w.heap.size w w' := by
  have m1 : -500000000000000000 ≤ r.n * t ∧ r.n * t ≤ 500000000000000000 := by rcases ht with rfl | rfl <;> omega
  have c1 := fun W => iRatioOf_c (r.n * t) (r.d * 100) W ⟨by omega, by omega⟩ ⟨by omega, by omega⟩
  rw [Int.mul_comm 100]
  generalize ratioOf (r.n * t) (r.d * 100) = q at *
  have H0 : Has ((w.alloc (.cells #[.int .i64 r.n, .int .i64 r.d] 41)).alloc (.cells #[.int .i64 0, .int .i64 0] 41)) (w.heap.size + 1) [.int .i64 0, .int .i64 0] := by
    repeat (first | ((with_reducible refine Has.new_at ?_ _ _ rfl); (first | rfl | (focus (simp; done)))) | (with_reducible refine Has.set_ ?_ ?_ _) | (with_reducible refine Has.alloc ?_ _) | (with_reducible refine Has.below ?_ (by assumption)) | (focus (simp; done)) | (focus (simp; omega)))
  go_enter Try.func127, Try.ntmps127
  go_wp2_with (fail)
  refine (c1 _).mono ?_
  rintro e w1 ⟨rfl, hb_w1⟩
  have H1 := H0.below hb_w1
  have lH := H1.1
  have B1 : Below w.heap.size w w1 := by (repeat (first | (with_reducible exact Below.refl _ _) | (with_reducible assumption) | (with_reducible refine below_al ?_ _) | (with_reducible refine Below.drew ?_) | (with_reducible refine below_drewN ?_ _) | (with_reducible refine below_st ?_ ?_ _) | (with_reducible refine below_tr ?_ (by assumption)) | (with_reducible exact Nat.le_refl _) | (focus (simp; done)) | (focus (simp; omega))))
  clear H0 hb_w1
  obtain ⟨cH1_0, fH1_0⟩ := H1.2 0 _ rfl
  obtain ⟨cH1_1, fH1_1⟩ := H1.2 1 _ rfl
  go_wp2
  refine bodyPost_ret (v := .agg #[.int .i64 q.n, .int .i64 q.d]) (by simp [results, Try.results127, go_sem, *]) rfl ⟨rfl, ?_⟩
  repeat (first | (with_reducible exact Below.refl _ _) | (with_reducible assumption) | (with_reducible refine below_al ?_ _) | (with_reducible refine Below.drew ?_) | (with_reducible refine below_drewN ?_ _) | (with_reducible refine below_st ?_ ?_ _) | (with_reducible refine below_tr ?_ (by assumption)) | (with_reducible exact Nat.le_refl _) | (focus (simp; done)) | (focus (simp; omega)))
set_option maxRecDepth 100000 in
set_option maxHeartbeats 8000000 in
theorem sPred_c (A : Option Addr) (xs : List Record) (cap : Nat) (err b i : Int) (w : World) (hl : xs.length ≤ 1048577) (he : In64 err) (_ : In64 b) (_ : In64 i) (hsl : Sl 3 recordC w A xs) :
    Calls Try.prog 70 #[.slice A xs.length cap, .int .i64 err, .int .i64 b, .int .i64 i] w fun e w' => e = .returned (.tuple #[ratioV (predR xs err b i).1, ratioV (predR xs err b i).2, .bool (predOk xs err b i)]) ∧ Below w.heap.size w w' := by
  have cF := fun W h => sFit_c A xs cap err W hl he h
  have hreg := fitR_ok xs err
  unfold predR predOk
  generalize fitR xs err = p at *
  generalize fitOk xs err = ok at *
  have T8 : HasT ((w.alloc (.cells #[.int .i64 0, .int .i64 0] 41)).alloc (.cells #[.int .i64 0, .int .i64 0] 41)) w.heap.size 41 [.int .i64 0, .int .i64 0] := (HasT.new w [.int .i64 0, .int .i64 0] 41).alloc _
  have T9 : HasT ((w.alloc (.cells #[.int .i64 0, .int .i64 0] 41)).alloc (.cells #[.int .i64 0, .int .i64 0] 41)) (w.heap.size + 1) 41 [.int .i64 0, .int .i64 0] := by
    have := HasT.new (w.alloc (.cells #[.int .i64 0, .int .i64 0] 41)) [.int .i64 0, .int .i64 0] 41
    simpa using this
  have b0 : Below w.heap.size w ((w.alloc (.cells #[.int .i64 0, .int .i64 0] 41)).alloc (.cells #[.int .i64 0, .int .i64 0] 41)) := by (repeat (first | (with_reducible exact Below.refl _ _) | (with_reducible assumption) | (with_reducible refine below_al ?_ _) | (with_reducible refine Below.drew ?_) | (with_reducible refine below_drewN ?_ _) | (with_reducible refine below_st ?_ ?_ _) | (with_reducible refine below_tr ?_ (by assumption)) | (with_reducible exact Nat.le_refl _) | (focus (simp; done)) | (focus (simp; omega))))
  have z0 : ((w.alloc (.cells #[.int .i64 0, .int .i64 0] 41)).alloc (.cells #[.int .i64 0, .int .i64 0] 41)).heap.size = w.heap.size + 1 + 1 := by simp
  have hsl0 := hsl.below b0
  replace cF := cF _ hsl0
  clear hsl hsl0
  generalize hW0 : ((w.alloc (.cells #[.int .i64 0, .int .i64 0] 41)).alloc (.cells #[.int .i64 0, .int .i64 0] 41)) = W0 at *
  replace hW0 := Lib.hid hW0
  have pre : ∀ Q : Bool → Prop, Q ok → Q ok := fun _ h => h
  clear pre
  cases ok
  · have hno : predOkP false p b i = false := rfl
    go_enter Try.func70, Try.ntmps70
    go_upto_region 1 with fail
    rw [hW0.out]
    clear hW0
    go_wp2_with (fail)
    refine cF.mono ?_
    rintro e w1 ⟨v, rfl, N, hb1⟩
    obtain ⟨A2, c2, rfl, hs2⟩ := N.sl halfC_len
    have T8b := T8.below hb1
    have T9b := T9.below hb1
    have b1 := b0.trans (hb1.mono b0.size)
    have z1 := hb1.size
    rw [z0] at z1
    clear cF N hb1 T8 T9 b0 z0
    clear W0
    have HGx := Has.new w1 #[.slice A2 p.length c2] 76
    have T8c := T8b.alloc (.cells #[.slice A2 p.length c2] 76)
    have T9c := T9b.alloc (.cells #[.slice A2 p.length c2] 76)
    have hs3 := hs2.alloc (.cells #[.slice A2 p.length c2] 76)
    have b2 := b1.alloc b1.size (.cells #[.slice A2 p.length c2] 76)
    go_upto_region 2 with fail
    have z2 : w.heap.size + 1 + 1 < (w1.alloc (.cells #[.slice A2 p.length c2] 76)).heap.size := by simp; omega
    generalize hgw : w1.alloc (.cells #[.slice A2 p.length c2] 76) = w2 at *
    have gz : w.heap.size + 1 + 1 ≤ w1.heap.size := z1
    clear hgw hs2 T8b T9b b1 z1
    generalize w1.heap.size = g at *
    clear w1
    obtain ⟨cHGx_0, fHGx_0⟩ := HGx.2 0 _ rfl
    have lG := HGx.1
    have H8 := T8c.has
    have H9 := T9c.has
    obtain ⟨cH8_0, fH8_0⟩ := H8.2 0 _ rfl
    obtain ⟨cH8_1, fH8_1⟩ := H8.2 1 _ rfl
    obtain ⟨cH9_0, fH9_0⟩ := H9.2 0 _ rfl
    obtain ⟨cH9_1, fH9_1⟩ := H9.2 1 _ rfl
    have l8 := H8.1
    have l9 := H9.1
    go_wp2
    refine bodyPost_ret (v := .tuple #[.agg #[.int .i64 0, .int .i64 0], .agg #[.int .i64 0, .int .i64 0], .bool false]) (by simp [results, Try.results70, go_sem, *]) rfl ⟨by rw [predP_no hno, hno]; rfl, ?_⟩
    repeat (first | (with_reducible exact Below.refl _ _) | (with_reducible assumption) | (with_reducible refine below_al ?_ _) | (with_reducible refine Below.drew ?_) | (with_reducible refine below_drewN ?_ _) | (with_reducible refine below_st ?_ ?_ _) | (with_reducible refine below_tr ?_ (by assumption)) | (with_reducible exact Nat.le_refl _) | (focus (simp; done)) | (focus (simp; omega)))
  by_cases hv : p.length = 0
  · have hno : predOkP true p b i = false := by simp [predOkP, hv]
    replace hv := Lib.hid hv
    skip
    go_enter Try.func70, Try.ntmps70
    go_upto_region 1 with fail
    rw [hW0.out]
    clear hW0
    go_wp2_with (fail)
    refine cF.mono ?_
    rintro e w1 ⟨v, rfl, N, hb1⟩
    obtain ⟨A2, c2, rfl, hs2⟩ := N.sl halfC_len
    have T8b := T8.below hb1
    have T9b := T9.below hb1
    have b1 := b0.trans (hb1.mono b0.size)
    have z1 := hb1.size
    rw [z0] at z1
    clear cF N hb1 T8 T9 b0 z0
    clear W0
    have HGx := Has.new w1 #[.slice A2 p.length c2] 76
    have T8c := T8b.alloc (.cells #[.slice A2 p.length c2] 76)
    have T9c := T9b.alloc (.cells #[.slice A2 p.length c2] 76)
    have hs3 := hs2.alloc (.cells #[.slice A2 p.length c2] 76)
    have b2 := b1.alloc b1.size (.cells #[.slice A2 p.length c2] 76)
    go_upto_region 2 with fail
    have z2 : w.heap.size + 1 + 1 < (w1.alloc (.cells #[.slice A2 p.length c2] 76)).heap.size := by simp; omega
    generalize hgw : w1.alloc (.cells #[.slice A2 p.length c2] 76) = w2 at *
    have gz : w.heap.size + 1 + 1 ≤ w1.heap.size := z1
    clear hgw hs2 T8b T9b b1 z1
    generalize w1.heap.size = g at *
    clear w1
    obtain ⟨cHGx_0, fHGx_0⟩ := HGx.2 0 _ rfl
    have lG := HGx.1
    have cV := sIsVoid_c p ⟨A2, c2⟩ w2
    rw [decide_eq_true hv.out] at cV
    go_wp2_with (fail)
    refine (cV).mono ?_
    rintro e w3 ⟨rfl, hb_w3⟩
    have T8d := T8c.below hb_w3
    have T9d := T9c.below hb_w3
    have HGxd := HGx.below hb_w3
    have hsd := hs3.below hb_w3
    have bd := b2.trans (hb_w3.mono b2.size)
    clear hb_w3 T8c T9c HGx hs3 b2
    (try clear cHGx_0 fHGx_0)
    obtain ⟨cHGxd_0, fHGxd_0⟩ := HGxd.2 0 _ rfl
    have lGd := HGxd.1
    have H8 := T8d.has
    have H9 := T9d.has
    obtain ⟨cH8_0, fH8_0⟩ := H8.2 0 _ rfl
    obtain ⟨cH8_1, fH8_1⟩ := H8.2 1 _ rfl
    obtain ⟨cH9_0, fH9_0⟩ := H9.2 0 _ rfl
    obtain ⟨cH9_1, fH9_1⟩ := H9.2 1 _ rfl
    have l8 := H8.1
    have l9 := H9.1
    go_wp2
    refine bodyPost_ret (v := .tuple #[.agg #[.int .i64 0, .int .i64 0], .agg #[.int .i64 0, .int .i64 0], .bool false]) (by simp [results, Try.results70, go_sem, *]) rfl ⟨by rw [predP_no hno, hno]; rfl, ?_⟩
    repeat (first | (with_reducible exact Below.refl _ _) | (with_reducible assumption) | (with_reducible refine below_al ?_ _) | (with_reducible refine Below.drew ?_) | (with_reducible refine below_drewN ?_ _) | (with_reducible refine below_st ?_ ?_ _) | (with_reducible refine below_tr ?_ (by assumption)) | (with_reducible exact Nat.le_refl _) | (focus (simp; done)) | (focus (simp; omega)))
  have hne : p ≠ [] := fun e => hv (by rw [e]; rfl)
  cases e1 : inR b (-1000) 1000
  · have hno : predOkP true p b i = false := by simp [predOkP, e1]
    go_enter Try.func70, Try.ntmps70
    go_upto_region 1 with fail
    rw [hW0.out]
    clear hW0
    go_wp2_with (fail)
    refine cF.mono ?_
    rintro e w1 ⟨v, rfl, N, hb1⟩
    obtain ⟨A2, c2, rfl, hs2⟩ := N.sl halfC_len
    have T8b := T8.below hb1
    have T9b := T9.below hb1
    have b1 := b0.trans (hb1.mono b0.size)
    have z1 := hb1.size
    rw [z0] at z1
    clear cF N hb1 T8 T9 b0 z0
    clear W0
    have HGx := Has.new w1 #[.slice A2 p.length c2] 76
    have T8c := T8b.alloc (.cells #[.slice A2 p.length c2] 76)
    have T9c := T9b.alloc (.cells #[.slice A2 p.length c2] 76)
    have hs3 := hs2.alloc (.cells #[.slice A2 p.length c2] 76)
    have b2 := b1.alloc b1.size (.cells #[.slice A2 p.length c2] 76)
    go_upto_region 2 with fail
    have z2 : w.heap.size + 1 + 1 < (w1.alloc (.cells #[.slice A2 p.length c2] 76)).heap.size := by simp; omega
    generalize hgw : w1.alloc (.cells #[.slice A2 p.length c2] 76) = w2 at *
    have gz : w.heap.size + 1 + 1 ≤ w1.heap.size := z1
    clear hgw hs2 T8b T9b b1 z1
    generalize w1.heap.size = g at *
    clear w1
    obtain ⟨cHGx_0, fHGx_0⟩ := HGx.2 0 _ rfl
    have lG := HGx.1
    have cV := sIsVoid_c p ⟨A2, c2⟩ w2
    rw [decide_eq_false hv] at cV
    go_wp2_with (fail)
    refine (cV).mono ?_
    rintro e w3 ⟨rfl, hb_w3⟩
    have T8d := T8c.below hb_w3
    have T9d := T9c.below hb_w3
    have HGxd := HGx.below hb_w3
    have hsd := hs3.below hb_w3
    have bd := b2.trans (hb_w3.mono b2.size)
    clear hb_w3 T8c T9c HGx hs3 b2
    (try clear cHGx_0 fHGx_0)
    obtain ⟨cHGxd_0, fHGxd_0⟩ := HGxd.2 0 _ rfl
    have lGd := HGxd.1
    have cb := l01In_c b (-1000) 1000 w3
    rw [e1] at cb
    go_wp2_with (fail)
    refine cb.mono ?_
    rintro e w' ⟨rfl, rfl⟩
    have H8 := T8d.has
    have H9 := T9d.has
    obtain ⟨cH8_0, fH8_0⟩ := H8.2 0 _ rfl
    obtain ⟨cH8_1, fH8_1⟩ := H8.2 1 _ rfl
    obtain ⟨cH9_0, fH9_0⟩ := H9.2 0 _ rfl
    obtain ⟨cH9_1, fH9_1⟩ := H9.2 1 _ rfl
    have l8 := H8.1
    have l9 := H9.1
    go_wp2
    refine bodyPost_ret (v := .tuple #[.agg #[.int .i64 0, .int .i64 0], .agg #[.int .i64 0, .int .i64 0], .bool false]) (by simp [results, Try.results70, go_sem, *]) rfl ⟨by rw [predP_no hno, hno]; rfl, ?_⟩
    repeat (first | (with_reducible exact Below.refl _ _) | (with_reducible assumption) | (with_reducible refine below_al ?_ _) | (with_reducible refine Below.drew ?_) | (with_reducible refine below_drewN ?_ _) | (with_reducible refine below_st ?_ ?_ _) | (with_reducible refine below_tr ?_ (by assumption)) | (with_reducible exact Nat.le_refl _) | (focus (simp; done)) | (focus (simp; omega)))
  cases e2 : inR i (-1000) 1000
  · have hno : predOkP true p b i = false := by simp [predOkP, e1, e2]
    go_enter Try.func70, Try.ntmps70
    go_upto_region 1 with fail
    rw [hW0.out]
    clear hW0
    go_wp2_with (fail)
    refine cF.mono ?_
    rintro e w1 ⟨v, rfl, N, hb1⟩
    obtain ⟨A2, c2, rfl, hs2⟩ := N.sl halfC_len
    have T8b := T8.below hb1
    have T9b := T9.below hb1
    have b1 := b0.trans (hb1.mono b0.size)
    have z1 := hb1.size
    rw [z0] at z1
    clear cF N hb1 T8 T9 b0 z0
    clear W0
    have HGx := Has.new w1 #[.slice A2 p.length c2] 76
    have T8c := T8b.alloc (.cells #[.slice A2 p.length c2] 76)
    have T9c := T9b.alloc (.cells #[.slice A2 p.length c2] 76)
    have hs3 := hs2.alloc (.cells #[.slice A2 p.length c2] 76)
    have b2 := b1.alloc b1.size (.cells #[.slice A2 p.length c2] 76)
    go_upto_region 2 with fail
    have z2 : w.heap.size + 1 + 1 < (w1.alloc (.cells #[.slice A2 p.length c2] 76)).heap.size := by simp; omega
    generalize hgw : w1.alloc (.cells #[.slice A2 p.length c2] 76) = w2 at *
    have gz : w.heap.size + 1 + 1 ≤ w1.heap.size := z1
    clear hgw hs2 T8b T9b b1 z1
    generalize w1.heap.size = g at *
    clear w1
    obtain ⟨cHGx_0, fHGx_0⟩ := HGx.2 0 _ rfl
    have lG := HGx.1
    have cV := sIsVoid_c p ⟨A2, c2⟩ w2
    rw [decide_eq_false hv] at cV
    go_wp2_with (fail)
    refine (cV).mono ?_
    rintro e w3 ⟨rfl, hb_w3⟩
    have T8d := T8c.below hb_w3
    have T9d := T9c.below hb_w3
    have HGxd := HGx.below hb_w3
    have hsd := hs3.below hb_w3
    have bd := b2.trans (hb_w3.mono b2.size)
    clear hb_w3 T8c T9c HGx hs3 b2
    (try clear cHGx_0 fHGx_0)
    obtain ⟨cHGxd_0, fHGxd_0⟩ := HGxd.2 0 _ rfl
    have lGd := HGxd.1
    have cb := l01In_c b (-1000) 1000 w3
    rw [e1] at cb
    go_wp2_with (fail)
    refine cb.mono ?_
    rintro e w' ⟨rfl, rfl⟩
    have ci := l01In_c i (-1000) 1000 w3
    rw [e2] at ci
    go_wp2_with (fail)
    refine ci.mono ?_
    rintro e w' ⟨rfl, rfl⟩
    have H8 := T8d.has
    have H9 := T9d.has
    obtain ⟨cH8_0, fH8_0⟩ := H8.2 0 _ rfl
    obtain ⟨cH8_1, fH8_1⟩ := H8.2 1 _ rfl
    obtain ⟨cH9_0, fH9_0⟩ := H9.2 0 _ rfl
    obtain ⟨cH9_1, fH9_1⟩ := H9.2 1 _ rfl
    have l8 := H8.1
    have l9 := H9.1
    go_wp2
    refine bodyPost_ret (v := .tuple #[.agg #[.int .i64 0, .int .i64 0], .agg #[.int .i64 0, .int .i64 0], .bool false]) (by simp [results, Try.results70, go_sem, *]) rfl ⟨by rw [predP_no hno, hno]; rfl, ?_⟩
    repeat (first | (with_reducible exact Below.refl _ _) | (with_reducible assumption) | (with_reducible refine below_al ?_ _) | (with_reducible refine Below.drew ?_) | (with_reducible refine below_drewN ?_ _) | (with_reducible refine below_st ?_ ?_ _) | (with_reducible refine below_tr ?_ (by assumption)) | (with_reducible exact Nat.le_refl _) | (focus (simp; done)) | (focus (simp; omega)))
  have hyes : predOkP true p b i = true := by simp [predOkP, hv, e1, e2]
  rw [hyes, predP_yes hyes]
  obtain ⟨q1, q2⟩ := inR_iff.1 e1
  obtain ⟨q3, q4⟩ := inR_iff.1 e2
  have S1 := supR (a := -b) (b := -i) hreg hne ⟨by omega, by omega⟩ ⟨by omega, by omega⟩
  have S2 := supR (a := b) (b := i) hreg hne ⟨by omega, by omega⟩ ⟨by omega, by omega⟩
  obtain ⟨y1, y2, y3⟩ := ratioOf_in5 S1.n S1.d
  obtain ⟨y4, _, y5⟩ := ratioOf_in5 S2.n S2.d
  have cS1 := fun A2 c2 W h => sFarL_c p ⟨A2, c2⟩ (-b) (-i) W hreg hne ⟨by omega, by omega⟩ ⟨by omega, by omega⟩ h
  have cS2 := fun A2 c2 W h => sFarL_c p ⟨A2, c2⟩ b i W hreg hne ⟨by omega, by omega⟩ ⟨by omega, by omega⟩ h
  have hsn := S1.n; have hsd := S1.d; have hsn2 := S2.n; have hsd2 := S2.d
  have cH1 := fun W => sRatioOf_c (-(sup p (-b) (-i)).n) (100 * (sup p (-b) (-i)).d) W y2 y3
  have cH2 := fun W => sRatioOf_c (sup p b i).n (100 * (sup p b i).d) W y4 y5
  clear S1 S2 y1 y2 y3 y4 y5 hreg
  generalize (supF p (-b) (-i)).1 = k1 at *
  generalize (supF p b i).1 = k2 at *
  generalize sup p (-b) (-i) = s1 at *
  generalize sup p b i = s2 at *
  generalize hr1 : ratioOf (-s1.n) (100 * s1.d) = r1 at *
  generalize hr2 : ratioOf s2.n (100 * s2.d) = r2 at *
  clear hr1 hr2
  go_enter Try.func70, Try.ntmps70
  go_upto_region 1 with fail
  rw [hW0.out]
  clear hW0
  go_wp2_with (fail)
  refine cF.mono ?_
  rintro e w1 ⟨v, rfl, N, hb1⟩
  obtain ⟨A2, c2, rfl, hs2⟩ := N.sl halfC_len
  have T8b := T8.below hb1
  have T9b := T9.below hb1
  have b1 := b0.trans (hb1.mono b0.size)
  have z1 := hb1.size
  rw [z0] at z1
  clear cF N hb1 T8 T9 b0 z0
  clear W0
  have HGx := Has.new w1 #[.slice A2 p.length c2] 76
  have T8c := T8b.alloc (.cells #[.slice A2 p.length c2] 76)
  have T9c := T9b.alloc (.cells #[.slice A2 p.length c2] 76)
  have hs3 := hs2.alloc (.cells #[.slice A2 p.length c2] 76)
  have b2 := b1.alloc b1.size (.cells #[.slice A2 p.length c2] 76)
  go_upto_region 2 with fail
  have z2 : w.heap.size + 1 + 1 < (w1.alloc (.cells #[.slice A2 p.length c2] 76)).heap.size := by simp; omega
  generalize hgw : w1.alloc (.cells #[.slice A2 p.length c2] 76) = w2 at *
  have gz : w.heap.size + 1 + 1 ≤ w1.heap.size := z1
  clear hgw hs2 T8b T9b b1 z1
  generalize w1.heap.size = g at *
  clear w1
  obtain ⟨cHGx_0, fHGx_0⟩ := HGx.2 0 _ rfl
  have lG := HGx.1
  have cV := sIsVoid_c p ⟨A2, c2⟩ w2
  rw [decide_eq_false hv] at cV
  go_wp2_with (fail)
  refine (cV).mono ?_
  rintro e w3 ⟨rfl, hb_w3⟩
  have T8d := T8c.below hb_w3
  have T9d := T9c.below hb_w3
  have HGxd := HGx.below hb_w3
  have hsd := hs3.below hb_w3
  have bd := b2.trans (hb_w3.mono b2.size)
  clear hb_w3 T8c T9c HGx hs3 b2
  (try clear cHGx_0 fHGx_0)
  obtain ⟨cHGxd_0, fHGxd_0⟩ := HGxd.2 0 _ rfl
  have lGd := HGxd.1
  have cb := l01In_c b (-1000) 1000 w3
  rw [e1] at cb
  go_wp2_with (fail)
  refine cb.mono ?_
  rintro e w' ⟨rfl, rfl⟩
  have ci := l01In_c i (-1000) 1000 w3
  rw [e2] at ci
  go_wp2_with (fail)
  refine ci.mono ?_
  rintro e w' ⟨rfl, rfl⟩
  have wn1 : IntKind.i64.wrap (-b) = -b := IntWalk.i64_in _ (by omega)
  have wn2 : IntKind.i64.wrap (-i) = -i := IntWalk.i64_in _ (by omega)
  go_wp2_with (fail)
  refine (cS1 A2 c2 _ hsd).mono ?_
  rintro e w4 ⟨rfl, hb_w4⟩
  have T8e := T8d.below hb_w4
  have T9e := T9d.below hb_w4
  have HGxe := HGxd.below hb_w4
  have hse := hsd.below hb_w4
  have be := bd.trans (hb_w4.mono bd.size)
  clear hb_w4 T8d T9d HGxd hsd bd
  (try clear cHGxd_0 fHGxd_0)
  obtain ⟨cHGxe_0, fHGxe_0⟩ := HGxe.2 0 _ rfl
  have lGe := HGxe.1
  have T13 := HasT.new w4 [.int .i64 s1.n, .int .i64 s1.d] 41
  have T8g := T8e.alloc (.cells #[.int .i64 s1.n, .int .i64 s1.d] 41)
  have T9g := T9e.alloc (.cells #[.int .i64 s1.n, .int .i64 s1.d] 41)
  have HGxg := HGxe.alloc (.cells #[.int .i64 s1.n, .int .i64 s1.d] 41)
  have hsg := hse.alloc (.cells #[.int .i64 s1.n, .int .i64 s1.d] 41)
  have bg := be.alloc be.size (.cells #[.int .i64 s1.n, .int .i64 s1.d] 41)
  have n13 : g < w4.heap.size := HGxe.1
  clear T8e T9e HGxe hse be cHGxe_0 fHGxe_0 lGe
  go_upto_region 5 with fail
  generalize hgw : w4.alloc (.cells #[.int .i64 s1.n, .int .i64 s1.d] 41) = w6 at *
  clear hgw
  generalize hg13 : w4.heap.size = g13 at *
  clear hg13
  obtain ⟨cHGxg_0, fHGxg_0⟩ := HGxg.2 0 _ rfl
  have lGg := HGxg.1
  go_wp2_with (fail)
  refine (cS2 A2 c2 _ hsg).mono ?_
  rintro e w7 ⟨rfl, hb_w7⟩
  have T13b := T13.below hb_w7
  clear T13
  have T8h := T8g.below hb_w7
  have T9h := T9g.below hb_w7
  have HGxh := HGxg.below hb_w7
  have hsh := hsg.below hb_w7
  have bh := bg.trans (hb_w7.mono bg.size)
  clear hb_w7 T8g T9g HGxg hsg bg
  (try clear cHGxg_0 fHGxg_0)
  obtain ⟨cHGxh_0, fHGxh_0⟩ := HGxh.2 0 _ rfl
  have lGh := HGxh.1
  have T13d := T13b.alloc (.cells #[.int .i64 s2.n, .int .i64 s2.d] 41)
  have n1314 : g13 < w7.heap.size := lt_of_heap T13b
  clear T13b
  have T14 := HasT.new w7 [.int .i64 s2.n, .int .i64 s2.d] 41
  have T8k := T8h.alloc (.cells #[.int .i64 s2.n, .int .i64 s2.d] 41)
  have T9k := T9h.alloc (.cells #[.int .i64 s2.n, .int .i64 s2.d] 41)
  have HGxk := HGxh.alloc (.cells #[.int .i64 s2.n, .int .i64 s2.d] 41)
  have hsk := hsh.alloc (.cells #[.int .i64 s2.n, .int .i64 s2.d] 41)
  have bk := bh.alloc bh.size (.cells #[.int .i64 s2.n, .int .i64 s2.d] 41)
  have n14 : g < w7.heap.size := HGxh.1
  clear T8h T9h HGxh hsh bh cHGxh_0 fHGxh_0 lGh
  go_upto_region 6 with fail
  generalize hgw : w7.alloc (.cells #[.int .i64 s2.n, .int .i64 s2.d] 41) = w9 at *
  clear hgw
  generalize hg14 : w7.heap.size = g14 at *
  clear hg14 HGxk hsk
  have hBW6 : w.heap.size ≤ w9.heap.size := bk.size
  have hT6_0 := T8k
  have hT6_1 := T9k
  have hT6_2 := T13d
  have hT6_3 := T14
  have wm1 : IntKind.i64.wrap (-s1.n) = -s1.n := IntWalk.i64_in _ (by omega)
  have wm2 : IntKind.i64.wrap (100 * s1.d) = 100 * s1.d := IntWalk.i64_in _ (by omega)
  have wm3 : IntKind.i64.wrap (100 * s2.d) = 100 * s2.d := IntWalk.i64_in _ (by omega)
  obtain ⟨I6, hI6⟩ : ∃ I : Act → (Nat → Bool) → Act → World → Prop, I = (fun a0 L a w' => FrameOf a0 a [57, 58, 59, 60, 61, 62, 63, 64, 65, 66, 67, 68, 69, 10] ∧ Below (w.heap.size) w9 w' ∧ (L 0 = true → a.tmps[57]?.getD undef = .pointer (some ⟨g13, 0, none⟩)) ∧ (L 1 = true → a.tmps[58]?.getD undef = .int .i64 s1.n) ∧ (L 2 = true → a.tmps[59]?.getD undef = .int .i64 (-s1.n)) ∧ (L 3 = true → a.tmps[60]?.getD undef = .pointer (some ⟨g13, 1, none⟩)) ∧ (L 4 = true → a.tmps[61]?.getD undef = .int .i64 s1.d) ∧ (L 5 = true → a.tmps[62]?.getD undef = .int .i64 (100 * s1.d)) ∧ (L 6 = true → a.tmps[63]?.getD undef = .agg #[.int .i64 r1.n, .int .i64 r1.d]) ∧ (L 7 = true → a.tmps[64]?.getD undef = .pointer (some ⟨g14, 0, none⟩)) ∧ (L 8 = true → a.tmps[65]?.getD undef = .int .i64 s2.n) ∧ (L 9 = true → a.tmps[66]?.getD undef = .pointer (some ⟨g14, 1, none⟩)) ∧ (L 10 = true → a.tmps[67]?.getD undef = .int .i64 s2.d) ∧ (L 11 = true → a.tmps[68]?.getD undef = .int .i64 (100 * s2.d)) ∧ (L 12 = true → a.tmps[69]?.getD undef = .agg #[.int .i64 r2.n, .int .i64 r2.d]) ∧ (L 15 = true → a.tmps[10]?.getD undef = .bool true) ∧ (L 1 = true → L 0 = true) ∧ (L 2 = true → L 1 = true) ∧ (L 4 = true → L 3 = true) ∧ (L 5 = true → L 4 = true) ∧ (L 6 = true → L 2 = true) ∧ (L 6 = true → L 5 = true) ∧ (L 8 = true → L 7 = true) ∧ (L 10 = true → L 9 = true) ∧ (L 11 = true → L 10 = true) ∧ (L 12 = true → L 8 = true) ∧ (L 12 = true → L 11 = true) ∧ (L 13 = true → L 6 = true) ∧ (L 14 = true → L 12 = true) ∧ (L 13 = false → HasT w' (w.heap.size) 41 [.int .i64 0, .int .i64 0]) ∧ (L 13 = true → HasT w' (w.heap.size) 41 [.int .i64 r1.n, .int .i64 r1.d]) ∧ (L 14 = false → HasT w' (w.heap.size + 1) 41 [.int .i64 0, .int .i64 0]) ∧ (L 14 = true → HasT w' (w.heap.size + 1) 41 [.int .i64 r2.n, .int .i64 r2.d]) ∧ HasT w' (g13) 41 [.int .i64 s1.n, .int .i64 s1.d] ∧ HasT w' (g14) 41 [.int .i64 s2.n, .int .i64 s2.d]) := ⟨_, rfl⟩
  refine wp_region_I0 (by kernel_rfl) (by kernel_rfl) I6 ?h0 ?hs ?he
  case h0 =>
    rw [hI6]
    exact ⟨FrameOf.refl _ _, (Below.refl _ _).drew, fun h => absurd h (by simp), fun h => absurd h (by simp), fun h => absurd h (by simp), fun h => absurd h (by simp), fun h => absurd h (by simp), fun h => absurd h (by simp), fun h => absurd h (by simp), fun h => absurd h (by simp), fun h => absurd h (by simp), fun h => absurd h (by simp), fun h => absurd h (by simp), fun h => absurd h (by simp), fun h => absurd h (by simp), fun h => absurd h (by simp), fun h => absurd h (by simp), fun h => absurd h (by simp), fun h => absurd h (by simp), fun h => absurd h (by simp), fun h => absurd h (by simp), fun h => absurd h (by simp), fun h => absurd h (by simp), fun h => absurd h (by simp), fun h => absurd h (by simp), fun h => absurd h (by simp), fun h => absurd h (by simp), fun h => absurd h (by simp), fun h => absurd h (by simp), fun _ => hT6_0, fun h => absurd h (by simp), fun _ => hT6_1, fun h => absurd h (by simp), hT6_2, hT6_3⟩
  case hs =>
    intro L a w' i o ho hLi hd hI'
    rw [hI6] at hI'
    obtain ⟨hF, hB, ci0, ci1, ci2, ci3, ci4, ci5, ci6, ci7, ci8, ci9, ci10, ci11, ci12, ci15, cp1_0, cp2_1, cp4_3, cp5_4, cp6_2, cp6_5, cp8_7, cp10_9, cp11_10, cp12_8, cp12_11, cp13_6, cp14_12, cy0, cz0, cy1, cz1, cy2, cy3⟩ := hI'
    have hi : i < 16 := by
      rcases Nat.lt_or_ge i 16 with h | h
      · exact h
      · rw [List.getElem?_eq_none (by simpa using h)] at ho; cases ho
    have zB := hB.size
    have hBw : w.heap.size ≤ w'.heap.size := Nat.le_trans hBW6 zB
    obtain rfl | rfl | rfl | rfl | rfl | rfl | rfl | rfl | rfl | rfl | rfl | rfl | rfl | rfl | rfl | rfl : i = 0 ∨ i = 1 ∨ i = 2 ∨ i = 3 ∨ i = 4 ∨ i = 5 ∨ i = 6 ∨ i = 7 ∨ i = 8 ∨ i = 9 ∨ i = 10 ∨ i = 11 ∨ i = 12 ∨ i = 13 ∨ i = 14 ∨ i = 15 := by omega
    · simp only [List.getElem?_cons_zero, Option.some.injEq] at ho
      subst ho
      rw [if_pos (by simp [Region.wanted])]
      have e0 : a.tmps[14]?.getD undef = .pointer (some ⟨g13, 0, none⟩) := hF.get (by decide)
      simp [go_sem, Array.getD_eq_getD_getElem?, e0]
      rw [hI6]
      exact ⟨hF.put (by decide) _, hB, fun _ => put_get_self (hF.lt (by simp)) _, pgK ci1 (by decide) rfl, pgK ci2 (by decide) rfl, pgK ci3 (by decide) rfl, pgK ci4 (by decide) rfl, pgK ci5 (by decide) rfl, pgK ci6 (by decide) rfl, pgK ci7 (by decide) rfl, pgK ci8 (by decide) rfl, pgK ci9 (by decide) rfl, pgK ci10 (by decide) rfl, pgK ci11 (by decide) rfl, pgK ci12 (by decide) rfl, pgK ci15 (by decide) rfl, fun _ => by simp, prK cp2_1 rfl, prK cp4_3 rfl, prK cp5_4 rfl, prK cp6_2 rfl, prK cp6_5 rfl, prK cp8_7 rfl, prK cp10_9 rfl, prK cp11_10 rfl, prK cp12_8 rfl, prK cp12_11 rfl, prK cp13_6 rfl, prK cp14_12 rfl, knK cy0 rfl, fun h => cz0 (by simpa using h), knK cy1 rfl, fun h => cz1 (by simpa using h), cy2, cy3⟩
    · simp only [List.getElem?_cons_zero, List.getElem?_cons_succ, Option.some.injEq] at ho
      subst ho
      rw [if_pos (by simp [Region.wanted])]
      have d0 := hd { on := 0, ground := .data } (by simp) (by decide)
      have v0 := ci0 d0
      have HT2 := cy2
      have HH2 := HT2.has
      have lH2 := HH2.1
      obtain ⟨cH2_0, fH2_0⟩ := HH2.2 0 _ rfl
      simp [go_sem, Array.getD_eq_getD_getElem?, v0, cH2_0]
      rw [hI6]
      exact ⟨hF.put (by decide) _, hB, pgK ci0 (by decide) rfl, fun _ => put_get_self (hF.lt (by simp)) _, pgK ci2 (by decide) rfl, pgK ci3 (by decide) rfl, pgK ci4 (by decide) rfl, pgK ci5 (by decide) rfl, pgK ci6 (by decide) rfl, pgK ci7 (by decide) rfl, pgK ci8 (by decide) rfl, pgK ci9 (by decide) rfl, pgK ci10 (by decide) rfl, pgK ci11 (by decide) rfl, pgK ci12 (by decide) rfl, pgK ci15 (by decide) rfl, fun _ => by simp [d0], fun _ => by simp, prK cp4_3 rfl, prK cp5_4 rfl, prK cp6_2 rfl, prK cp6_5 rfl, prK cp8_7 rfl, prK cp10_9 rfl, prK cp11_10 rfl, prK cp12_8 rfl, prK cp12_11 rfl, prK cp13_6 rfl, prK cp14_12 rfl, knK cy0 rfl, fun h => cz0 (by simpa using h), knK cy1 rfl, fun h => cz1 (by simpa using h), cy2, cy3⟩
    · simp only [List.getElem?_cons_zero, List.getElem?_cons_succ, Option.some.injEq] at ho
      subst ho
      rw [if_pos (by simp [Region.wanted])]
      have d1 := hd { on := 1, ground := .data } (by simp) (by decide)
      have v1 := ci1 d1
      simp [go_sem, Array.getD_eq_getD_getElem?, v1, wm1]
      rw [hI6]
      exact ⟨hF.put (by decide) _, hB, pgK ci0 (by decide) rfl, pgK ci1 (by decide) rfl, fun _ => put_get_self (hF.lt (by simp)) _, pgK ci3 (by decide) rfl, pgK ci4 (by decide) rfl, pgK ci5 (by decide) rfl, pgK ci6 (by decide) rfl, pgK ci7 (by decide) rfl, pgK ci8 (by decide) rfl, pgK ci9 (by decide) rfl, pgK ci10 (by decide) rfl, pgK ci11 (by decide) rfl, pgK ci12 (by decide) rfl, pgK ci15 (by decide) rfl, prK cp1_0 rfl, fun _ => by simp [d1], prK cp4_3 rfl, prK cp5_4 rfl, fun _ => by simp, prK cp6_5 rfl, prK cp8_7 rfl, prK cp10_9 rfl, prK cp11_10 rfl, prK cp12_8 rfl, prK cp12_11 rfl, prK cp13_6 rfl, prK cp14_12 rfl, knK cy0 rfl, fun h => cz0 (by simpa using h), knK cy1 rfl, fun h => cz1 (by simpa using h), cy2, cy3⟩
    · simp only [List.getElem?_cons_zero, List.getElem?_cons_succ, Option.some.injEq] at ho
      subst ho
      rw [if_pos (by simp [Region.wanted])]
      have e0 : a.tmps[14]?.getD undef = .pointer (some ⟨g13, 0, none⟩) := hF.get (by decide)
      simp [go_sem, Array.getD_eq_getD_getElem?, e0]
      rw [hI6]
      exact ⟨hF.put (by decide) _, hB, pgK ci0 (by decide) rfl, pgK ci1 (by decide) rfl, pgK ci2 (by decide) rfl, fun _ => put_get_self (hF.lt (by simp)) _, pgK ci4 (by decide) rfl, pgK ci5 (by decide) rfl, pgK ci6 (by decide) rfl, pgK ci7 (by decide) rfl, pgK ci8 (by decide) rfl, pgK ci9 (by decide) rfl, pgK ci10 (by decide) rfl, pgK ci11 (by decide) rfl, pgK ci12 (by decide) rfl, pgK ci15 (by decide) rfl, prK cp1_0 rfl, prK cp2_1 rfl, fun _ => by simp, prK cp5_4 rfl, prK cp6_2 rfl, prK cp6_5 rfl, prK cp8_7 rfl, prK cp10_9 rfl, prK cp11_10 rfl, prK cp12_8 rfl, prK cp12_11 rfl, prK cp13_6 rfl, prK cp14_12 rfl, knK cy0 rfl, fun h => cz0 (by simpa using h), knK cy1 rfl, fun h => cz1 (by simpa using h), cy2, cy3⟩
    · simp only [List.getElem?_cons_zero, List.getElem?_cons_succ, Option.some.injEq] at ho
      subst ho
      rw [if_pos (by simp [Region.wanted])]
      have d3 := hd { on := 3, ground := .data } (by simp) (by decide)
      have v3 := ci3 d3
      have HT2 := cy2
      have HH2 := HT2.has
      have lH2 := HH2.1
      obtain ⟨cH2_1, fH2_1⟩ := HH2.2 1 _ rfl
      simp [go_sem, Array.getD_eq_getD_getElem?, v3, cH2_1]
      rw [hI6]
      exact ⟨hF.put (by decide) _, hB, pgK ci0 (by decide) rfl, pgK ci1 (by decide) rfl, pgK ci2 (by decide) rfl, pgK ci3 (by decide) rfl, fun _ => put_get_self (hF.lt (by simp)) _, pgK ci5 (by decide) rfl, pgK ci6 (by decide) rfl, pgK ci7 (by decide) rfl, pgK ci8 (by decide) rfl, pgK ci9 (by decide) rfl, pgK ci10 (by decide) rfl, pgK ci11 (by decide) rfl, pgK ci12 (by decide) rfl, pgK ci15 (by decide) rfl, prK cp1_0 rfl, prK cp2_1 rfl, fun _ => by simp [d3], fun _ => by simp, prK cp6_2 rfl, prK cp6_5 rfl, prK cp8_7 rfl, prK cp10_9 rfl, prK cp11_10 rfl, prK cp12_8 rfl, prK cp12_11 rfl, prK cp13_6 rfl, prK cp14_12 rfl, knK cy0 rfl, fun h => cz0 (by simpa using h), knK cy1 rfl, fun h => cz1 (by simpa using h), cy2, cy3⟩
    · simp only [List.getElem?_cons_zero, List.getElem?_cons_succ, Option.some.injEq] at ho
      subst ho
      rw [if_pos (by simp [Region.wanted])]
      have d4 := hd { on := 4, ground := .data } (by simp) (by decide)
      have v4 := ci4 d4
      simp [go_sem, Array.getD_eq_getD_getElem?, v4, wm2]
      rw [hI6]
      exact ⟨hF.put (by decide) _, hB, pgK ci0 (by decide) rfl, pgK ci1 (by decide) rfl, pgK ci2 (by decide) rfl, pgK ci3 (by decide) rfl, pgK ci4 (by decide) rfl, fun _ => put_get_self (hF.lt (by simp)) _, pgK ci6 (by decide) rfl, pgK ci7 (by decide) rfl, pgK ci8 (by decide) rfl, pgK ci9 (by decide) rfl, pgK ci10 (by decide) rfl, pgK ci11 (by decide) rfl, pgK ci12 (by decide) rfl, pgK ci15 (by decide) rfl, prK cp1_0 rfl, prK cp2_1 rfl, prK cp4_3 rfl, fun _ => by simp [d4], prK cp6_2 rfl, fun _ => by simp, prK cp8_7 rfl, prK cp10_9 rfl, prK cp11_10 rfl, prK cp12_8 rfl, prK cp12_11 rfl, prK cp13_6 rfl, prK cp14_12 rfl, knK cy0 rfl, fun h => cz0 (by simpa using h), knK cy1 rfl, fun h => cz1 (by simpa using h), cy2, cy3⟩
    · simp only [List.getElem?_cons_zero, List.getElem?_cons_succ, Option.some.injEq] at ho
      subst ho
      rw [if_pos (by simp [Region.wanted])]
      have d2 := hd { on := 2, ground := .data } (by simp) (by decide)
      have v2 := ci2 d2
      have d5 := hd { on := 5, ground := .data } (by simp) (by decide)
      have v5 := ci5 d5
      simp [go_sem, Array.getD_eq_getD_getElem?, v2, v5]
      refine (cH1 _).mono ?_
      rintro e wx ⟨rfl, hbx⟩
      rw [hI6]
      exact ⟨hF.put (by decide) _, hB.trans (hbx.mono hBw), pgK ci0 (by decide) rfl, pgK ci1 (by decide) rfl, pgK ci2 (by decide) rfl, pgK ci3 (by decide) rfl, pgK ci4 (by decide) rfl, pgK ci5 (by decide) rfl, fun _ => put_get_self (hF.lt (by simp)) _, pgK ci7 (by decide) rfl, pgK ci8 (by decide) rfl, pgK ci9 (by decide) rfl, pgK ci10 (by decide) rfl, pgK ci11 (by decide) rfl, pgK ci12 (by decide) rfl, pgK ci15 (by decide) rfl, prK cp1_0 rfl, prK cp2_1 rfl, prK cp4_3 rfl, prK cp5_4 rfl, fun _ => by simp [d2], fun _ => by simp [d5], prK cp8_7 rfl, prK cp10_9 rfl, prK cp11_10 rfl, prK cp12_8 rfl, prK cp12_11 rfl, fun _ => by simp, prK cp14_12 rfl, fun h => (cy0 (by simpa using h)).below hbx, fun h => (cz0 (by simpa using h)).below hbx, fun h => (cy1 (by simpa using h)).below hbx, fun h => (cz1 (by simpa using h)).below hbx, (cy2).below hbx, (cy3).below hbx⟩
    · simp only [List.getElem?_cons_zero, List.getElem?_cons_succ, Option.some.injEq] at ho
      subst ho
      rw [if_pos (by simp [Region.wanted])]
      have e0 : a.tmps[16]?.getD undef = .pointer (some ⟨g14, 0, none⟩) := hF.get (by decide)
      simp [go_sem, Array.getD_eq_getD_getElem?, e0]
      rw [hI6]
      exact ⟨hF.put (by decide) _, hB, pgK ci0 (by decide) rfl, pgK ci1 (by decide) rfl, pgK ci2 (by decide) rfl, pgK ci3 (by decide) rfl, pgK ci4 (by decide) rfl, pgK ci5 (by decide) rfl, pgK ci6 (by decide) rfl, fun _ => put_get_self (hF.lt (by simp)) _, pgK ci8 (by decide) rfl, pgK ci9 (by decide) rfl, pgK ci10 (by decide) rfl, pgK ci11 (by decide) rfl, pgK ci12 (by decide) rfl, pgK ci15 (by decide) rfl, prK cp1_0 rfl, prK cp2_1 rfl, prK cp4_3 rfl, prK cp5_4 rfl, prK cp6_2 rfl, prK cp6_5 rfl, fun _ => by simp, prK cp10_9 rfl, prK cp11_10 rfl, prK cp12_8 rfl, prK cp12_11 rfl, prK cp13_6 rfl, prK cp14_12 rfl, knK cy0 rfl, fun h => cz0 (by simpa using h), knK cy1 rfl, fun h => cz1 (by simpa using h), cy2, cy3⟩
    · simp only [List.getElem?_cons_zero, List.getElem?_cons_succ, Option.some.injEq] at ho
      subst ho
      rw [if_pos (by simp [Region.wanted])]
      have d7 := hd { on := 7, ground := .data } (by simp) (by decide)
      have v7 := ci7 d7
      have HT3 := cy3
      have HH3 := HT3.has
      have lH3 := HH3.1
      obtain ⟨cH3_0, fH3_0⟩ := HH3.2 0 _ rfl
      simp [go_sem, Array.getD_eq_getD_getElem?, v7, cH3_0]
      rw [hI6]
      exact ⟨hF.put (by decide) _, hB, pgK ci0 (by decide) rfl, pgK ci1 (by decide) rfl, pgK ci2 (by decide) rfl, pgK ci3 (by decide) rfl, pgK ci4 (by decide) rfl, pgK ci5 (by decide) rfl, pgK ci6 (by decide) rfl, pgK ci7 (by decide) rfl, fun _ => put_get_self (hF.lt (by simp)) _, pgK ci9 (by decide) rfl, pgK ci10 (by decide) rfl, pgK ci11 (by decide) rfl, pgK ci12 (by decide) rfl, pgK ci15 (by decide) rfl, prK cp1_0 rfl, prK cp2_1 rfl, prK cp4_3 rfl, prK cp5_4 rfl, prK cp6_2 rfl, prK cp6_5 rfl, fun _ => by simp [d7], prK cp10_9 rfl, prK cp11_10 rfl, fun _ => by simp, prK cp12_11 rfl, prK cp13_6 rfl, prK cp14_12 rfl, knK cy0 rfl, fun h => cz0 (by simpa using h), knK cy1 rfl, fun h => cz1 (by simpa using h), cy2, cy3⟩
    · simp only [List.getElem?_cons_zero, List.getElem?_cons_succ, Option.some.injEq] at ho
      subst ho
      rw [if_pos (by simp [Region.wanted])]
      have e0 : a.tmps[16]?.getD undef = .pointer (some ⟨g14, 0, none⟩) := hF.get (by decide)
      simp [go_sem, Array.getD_eq_getD_getElem?, e0]
      rw [hI6]
      exact ⟨hF.put (by decide) _, hB, pgK ci0 (by decide) rfl, pgK ci1 (by decide) rfl, pgK ci2 (by decide) rfl, pgK ci3 (by decide) rfl, pgK ci4 (by decide) rfl, pgK ci5 (by decide) rfl, pgK ci6 (by decide) rfl, pgK ci7 (by decide) rfl, pgK ci8 (by decide) rfl, fun _ => put_get_self (hF.lt (by simp)) _, pgK ci10 (by decide) rfl, pgK ci11 (by decide) rfl, pgK ci12 (by decide) rfl, pgK ci15 (by decide) rfl, prK cp1_0 rfl, prK cp2_1 rfl, prK cp4_3 rfl, prK cp5_4 rfl, prK cp6_2 rfl, prK cp6_5 rfl, prK cp8_7 rfl, fun _ => by simp, prK cp11_10 rfl, prK cp12_8 rfl, prK cp12_11 rfl, prK cp13_6 rfl, prK cp14_12 rfl, knK cy0 rfl, fun h => cz0 (by simpa using h), knK cy1 rfl, fun h => cz1 (by simpa using h), cy2, cy3⟩
    · simp only [List.getElem?_cons_zero, List.getElem?_cons_succ, Option.some.injEq] at ho
      subst ho
      rw [if_pos (by simp [Region.wanted])]
      have d9 := hd { on := 9, ground := .data } (by simp) (by decide)
      have v9 := ci9 d9
      have HT3 := cy3
      have HH3 := HT3.has
      have lH3 := HH3.1
      obtain ⟨cH3_1, fH3_1⟩ := HH3.2 1 _ rfl
      simp [go_sem, Array.getD_eq_getD_getElem?, v9, cH3_1]
      rw [hI6]
      exact ⟨hF.put (by decide) _, hB, pgK ci0 (by decide) rfl, pgK ci1 (by decide) rfl, pgK ci2 (by decide) rfl, pgK ci3 (by decide) rfl, pgK ci4 (by decide) rfl, pgK ci5 (by decide) rfl, pgK ci6 (by decide) rfl, pgK ci7 (by decide) rfl, pgK ci8 (by decide) rfl, pgK ci9 (by decide) rfl, fun _ => put_get_self (hF.lt (by simp)) _, pgK ci11 (by decide) rfl, pgK ci12 (by decide) rfl, pgK ci15 (by decide) rfl, prK cp1_0 rfl, prK cp2_1 rfl, prK cp4_3 rfl, prK cp5_4 rfl, prK cp6_2 rfl, prK cp6_5 rfl, prK cp8_7 rfl, fun _ => by simp [d9], fun _ => by simp, prK cp12_8 rfl, prK cp12_11 rfl, prK cp13_6 rfl, prK cp14_12 rfl, knK cy0 rfl, fun h => cz0 (by simpa using h), knK cy1 rfl, fun h => cz1 (by simpa using h), cy2, cy3⟩
    · simp only [List.getElem?_cons_zero, List.getElem?_cons_succ, Option.some.injEq] at ho
      subst ho
      rw [if_pos (by simp [Region.wanted])]
      have d10 := hd { on := 10, ground := .data } (by simp) (by decide)
      have v10 := ci10 d10
      simp [go_sem, Array.getD_eq_getD_getElem?, v10, wm3]
      rw [hI6]
      exact ⟨hF.put (by decide) _, hB, pgK ci0 (by decide) rfl, pgK ci1 (by decide) rfl, pgK ci2 (by decide) rfl, pgK ci3 (by decide) rfl, pgK ci4 (by decide) rfl, pgK ci5 (by decide) rfl, pgK ci6 (by decide) rfl, pgK ci7 (by decide) rfl, pgK ci8 (by decide) rfl, pgK ci9 (by decide) rfl, pgK ci10 (by decide) rfl, fun _ => put_get_self (hF.lt (by simp)) _, pgK ci12 (by decide) rfl, pgK ci15 (by decide) rfl, prK cp1_0 rfl, prK cp2_1 rfl, prK cp4_3 rfl, prK cp5_4 rfl, prK cp6_2 rfl, prK cp6_5 rfl, prK cp8_7 rfl, prK cp10_9 rfl, fun _ => by simp [d10], prK cp12_8 rfl, fun _ => by simp, prK cp13_6 rfl, prK cp14_12 rfl, knK cy0 rfl, fun h => cz0 (by simpa using h), knK cy1 rfl, fun h => cz1 (by simpa using h), cy2, cy3⟩
    · simp only [List.getElem?_cons_zero, List.getElem?_cons_succ, Option.some.injEq] at ho
      subst ho
      rw [if_pos (by simp [Region.wanted])]
      have d8 := hd { on := 8, ground := .data } (by simp) (by decide)
      have v8 := ci8 d8
      have d11 := hd { on := 11, ground := .data } (by simp) (by decide)
      have v11 := ci11 d11
      simp [go_sem, Array.getD_eq_getD_getElem?, v8, v11]
      refine (cH2 _).mono ?_
      rintro e wx ⟨rfl, hbx⟩
      rw [hI6]
      exact ⟨hF.put (by decide) _, hB.trans (hbx.mono hBw), pgK ci0 (by decide) rfl, pgK ci1 (by decide) rfl, pgK ci2 (by decide) rfl, pgK ci3 (by decide) rfl, pgK ci4 (by decide) rfl, pgK ci5 (by decide) rfl, pgK ci6 (by decide) rfl, pgK ci7 (by decide) rfl, pgK ci8 (by decide) rfl, pgK ci9 (by decide) rfl, pgK ci10 (by decide) rfl, pgK ci11 (by decide) rfl, fun _ => put_get_self (hF.lt (by simp)) _, pgK ci15 (by decide) rfl, prK cp1_0 rfl, prK cp2_1 rfl, prK cp4_3 rfl, prK cp5_4 rfl, prK cp6_2 rfl, prK cp6_5 rfl, prK cp8_7 rfl, prK cp10_9 rfl, prK cp11_10 rfl, fun _ => by simp [d8], fun _ => by simp [d11], prK cp13_6 rfl, fun _ => by simp, fun h => (cy0 (by simpa using h)).below hbx, fun h => (cz0 (by simpa using h)).below hbx, fun h => (cy1 (by simpa using h)).below hbx, fun h => (cz1 (by simpa using h)).below hbx, (cy2).below hbx, (cy3).below hbx⟩
    · simp only [List.getElem?_cons_zero, List.getElem?_cons_succ, Option.some.injEq] at ho
      subst ho
      rw [if_pos (by simp [Region.wanted])]
      have e0 : a.tmps[8]?.getD undef = .pointer (some ⟨w.heap.size, 0, none⟩) := hF.get (by decide)
      have d6 := hd { on := 6, ground := .data } (by simp) (by decide)
      have v6 := ci6 d6
      have HT0 := cy0 hLi
      have HH0 := HT0.has
      have lH0 := HH0.1
      obtain ⟨cH0_0, fH0_0⟩ := HH0.2 0 _ rfl
      obtain ⟨cH0_1, fH0_1⟩ := HH0.2 1 _ rfl
      simp [go_sem, Array.getD_eq_getD_getElem?, e0, v6, cH0_0, fH0_0, cH0_1, fH0_1]
      rw [hI6]
      exact ⟨hF, below_setCells_at (by omega) [_, _] 0 _ hB, kpK ci0 rfl, kpK ci1 rfl, kpK ci2 rfl, kpK ci3 rfl, kpK ci4 rfl, kpK ci5 rfl, kpK ci6 rfl, kpK ci7 rfl, kpK ci8 rfl, kpK ci9 rfl, kpK ci10 rfl, kpK ci11 rfl, kpK ci12 rfl, kpK ci15 rfl, prK cp1_0 rfl, prK cp2_1 rfl, prK cp4_3 rfl, prK cp5_4 rfl, prK cp6_2 rfl, prK cp6_5 rfl, prK cp8_7 rfl, prK cp10_9 rfl, prK cp11_10 rfl, prK cp12_8 rfl, prK cp12_11 rfl, fun _ => by simp [d6], prK cp14_12 rfl, fun h => by simp at h, fun _ => HT0.store (us := [.int .i64 r1.n, .int .i64 r1.d]) rfl, fun h => (cy1 (by simpa using h)).other (g' := w.heap.size) (by omega) [.int .i64 r1.n, .int .i64 r1.d] 0, fun h => (cz1 (by simpa using h)).other (g' := w.heap.size) (by omega) [.int .i64 r1.n, .int .i64 r1.d] 0, (cy2).other (g' := w.heap.size) (by omega) [.int .i64 r1.n, .int .i64 r1.d] 0, (cy3).other (g' := w.heap.size) (by omega) [.int .i64 r1.n, .int .i64 r1.d] 0⟩
    · simp only [List.getElem?_cons_zero, List.getElem?_cons_succ, Option.some.injEq] at ho
      subst ho
      rw [if_pos (by simp [Region.wanted])]
      have e0 : a.tmps[9]?.getD undef = .pointer (some ⟨w.heap.size + 1, 0, none⟩) := hF.get (by decide)
      have d12 := hd { on := 12, ground := .data } (by simp) (by decide)
      have v12 := ci12 d12
      have HT1 := cy1 hLi
      have HH1 := HT1.has
      have lH1 := HH1.1
      obtain ⟨cH1_0, fH1_0⟩ := HH1.2 0 _ rfl
      obtain ⟨cH1_1, fH1_1⟩ := HH1.2 1 _ rfl
      simp [go_sem, Array.getD_eq_getD_getElem?, e0, v12, cH1_0, fH1_0, cH1_1, fH1_1]
      rw [hI6]
      exact ⟨hF, below_setCells_at (by omega) [_, _] 0 _ hB, kpK ci0 rfl, kpK ci1 rfl, kpK ci2 rfl, kpK ci3 rfl, kpK ci4 rfl, kpK ci5 rfl, kpK ci6 rfl, kpK ci7 rfl, kpK ci8 rfl, kpK ci9 rfl, kpK ci10 rfl, kpK ci11 rfl, kpK ci12 rfl, kpK ci15 rfl, prK cp1_0 rfl, prK cp2_1 rfl, prK cp4_3 rfl, prK cp5_4 rfl, prK cp6_2 rfl, prK cp6_5 rfl, prK cp8_7 rfl, prK cp10_9 rfl, prK cp11_10 rfl, prK cp12_8 rfl, prK cp12_11 rfl, prK cp13_6 rfl, fun _ => by simp [d12], fun h => (cy0 (by simpa using h)).other (g' := w.heap.size + 1) (by omega) [.int .i64 r2.n, .int .i64 r2.d] 0, fun h => (cz0 (by simpa using h)).other (g' := w.heap.size + 1) (by omega) [.int .i64 r2.n, .int .i64 r2.d] 0, fun h => by simp at h, fun _ => HT1.store (us := [.int .i64 r2.n, .int .i64 r2.d]) rfl, (cy2).other (g' := w.heap.size + 1) (by omega) [.int .i64 r2.n, .int .i64 r2.d] 0, (cy3).other (g' := w.heap.size + 1) (by omega) [.int .i64 r2.n, .int .i64 r2.d] 0⟩
    · simp only [List.getElem?_cons_zero, List.getElem?_cons_succ, Option.some.injEq] at ho
      subst ho
      rw [if_pos (by simp [Region.wanted])]
      simp [go_sem]
      rw [hI6]
      exact ⟨hF.put (by decide) _, hB, pgK ci0 (by decide) rfl, pgK ci1 (by decide) rfl, pgK ci2 (by decide) rfl, pgK ci3 (by decide) rfl, pgK ci4 (by decide) rfl, pgK ci5 (by decide) rfl, pgK ci6 (by decide) rfl, pgK ci7 (by decide) rfl, pgK ci8 (by decide) rfl, pgK ci9 (by decide) rfl, pgK ci10 (by decide) rfl, pgK ci11 (by decide) rfl, pgK ci12 (by decide) rfl, fun _ => put_get_self (hF.lt (by simp)) _, prK cp1_0 rfl, prK cp2_1 rfl, prK cp4_3 rfl, prK cp5_4 rfl, prK cp6_2 rfl, prK cp6_5 rfl, prK cp8_7 rfl, prK cp10_9 rfl, prK cp11_10 rfl, prK cp12_8 rfl, prK cp12_11 rfl, prK cp13_6 rfl, prK cp14_12 rfl, knK cy0 rfl, fun h => cz0 (by simpa using h), knK cy1 rfl, fun h => cz1 (by simpa using h), cy2, cy3⟩
  case he =>
    intro L a' w6 hL hI'
    rw [hI6] at hI'
    obtain ⟨hF, hb6, ci0, ci1, ci2, ci3, ci4, ci5, ci6, ci7, ci8, ci9, ci10, ci11, ci12, ci15, cp1_0, cp2_1, cp4_3, cp5_4, cp6_2, cp6_5, cp8_7, cp10_9, cp11_10, cp12_8, cp12_11, cp13_6, cp14_12, cy0, cz0, cy1, cz1, cy2, cy3⟩ := hI'
    have e6_15 := ci15 (hL 15 (by decide))
    have HT6_0 := cz0 (hL 13 (by decide))
    have HT6_1 := cz1 (hL 14 (by decide))
    have HT6_2 := cy2
    have HT6_3 := cy3
    have hout := hF.outG (by simp)
    simp only [List.foldl_cons, List.foldl_nil, e6_15] at hout
    rw [hout]
    generalize a'.tmps[57]?.getD undef = x6_57
    generalize a'.tmps[58]?.getD undef = x6_58
    generalize a'.tmps[59]?.getD undef = x6_59
    generalize a'.tmps[60]?.getD undef = x6_60
    generalize a'.tmps[61]?.getD undef = x6_61
    generalize a'.tmps[62]?.getD undef = x6_62
    generalize a'.tmps[63]?.getD undef = x6_63
    generalize a'.tmps[64]?.getD undef = x6_64
    generalize a'.tmps[65]?.getD undef = x6_65
    generalize a'.tmps[66]?.getD undef = x6_66
    generalize a'.tmps[67]?.getD undef = x6_67
    generalize a'.tmps[68]?.getD undef = x6_68
    generalize a'.tmps[69]?.getD undef = x6_69
    clear hout hI6 hF hL ci0 ci1 ci2 ci3 ci4 ci5 ci6 ci7 ci8 ci9 ci10 ci11 ci12 ci15 cp1_0 cp2_1 cp4_3 cp5_4 cp6_2 cp6_5 cp8_7 cp10_9 cp11_10 cp12_8 cp12_11 cp13_6 cp14_12 cy0 cz0 cy1 cz1 cy2 cy3
    go_simp
    have HR8 := HT6_0.has
    have HR9 := HT6_1.has
    obtain ⟨cHR8_0, fHR8_0⟩ := HR8.2 0 _ rfl
    obtain ⟨cHR8_1, fHR8_1⟩ := HR8.2 1 _ rfl
    obtain ⟨cHR9_0, fHR9_0⟩ := HR9.2 0 _ rfl
    obtain ⟨cHR9_1, fHR9_1⟩ := HR9.2 1 _ rfl
    have l8 := HR8.1
    have l9 := HR9.1
    have BF := bk.trans hb6
    clear HT6_0 HT6_1 HT6_2 HT6_3
    go_wp2
    refine bodyPost_ret (v := .tuple #[.agg #[.int .i64 r1.n, .int .i64 r1.d], .agg #[.int .i64 r2.n, .int .i64 r2.d], .bool true]) (by simp [results, Try.results70, go_sem, *]) rfl ⟨rfl, BF⟩
set_option maxRecDepth 100000 in
set_option maxHeartbeats 8000000 in
theorem iPred_c (A : Option Addr) (xs : List Record) (cap : Nat) (err b i : Int) (w : World) (hl : xs.length ≤ 1048577) (he : In64 err) (_ : In64 b) (_ : In64 i) (hsl : Sl 3 recordC w A xs) :
    Calls Try.prog 47 #[.slice A xs.length cap, .int .i64 err, .int .i64 b, .int .i64 i] w fun e w' => e = .returned (.tuple #[ratioV (predR xs err b i).1, ratioV (predR xs err b i).2, .bool (predOk xs err b i)]) ∧ Below w.heap.size w w' := by
  have cF := fun W h => iFit_c A xs cap err W hl he h
  have hreg := fitR_ok xs err
  unfold predR predOk
  generalize fitR xs err = p at *
  generalize fitOk xs err = ok at *
  have T8 : HasT ((w.alloc (.cells #[.int .i64 0, .int .i64 0] 41)).alloc (.cells #[.int .i64 0, .int .i64 0] 41)) w.heap.size 41 [.int .i64 0, .int .i64 0] := (HasT.new w [.int .i64 0, .int .i64 0] 41).alloc _
  have T9 : HasT ((w.alloc (.cells #[.int .i64 0, .int .i64 0] 41)).alloc (.cells #[.int .i64 0, .int .i64 0] 41)) (w.heap.size + 1) 41 [.int .i64 0, .int .i64 0] := by
    have := HasT.new (w.alloc (.cells #[.int .i64 0, .int .i64 0] 41)) [.int .i64 0, .int .i64 0] 41
    simpa using this
  have b0 : Below w.heap.size w ((w.alloc (.cells #[.int .i64 0, .int .i64 0] 41)).alloc (.cells #[.int .i64 0, .int .i64 0] 41)) := by (repeat (first | (with_reducible exact Below.refl _ _) | (with_reducible assumption) | (with_reducible refine below_al ?_ _) | (with_reducible refine Below.drew ?_) | (with_reducible refine below_drewN ?_ _) | (with_reducible refine below_st ?_ ?_ _) | (with_reducible refine below_tr ?_ (by assumption)) | (with_reducible exact Nat.le_refl _) | (focus (simp; done)) | (focus (simp; omega))))
  have z0 : ((w.alloc (.cells #[.int .i64 0, .int .i64 0] 41)).alloc (.cells #[.int .i64 0, .int .i64 0] 41)).heap.size = w.heap.size + 1 + 1 := by simp
  have hsl0 := hsl.below b0
  replace cF := cF _ hsl0
  clear hsl hsl0
  generalize hW0 : ((w.alloc (.cells #[.int .i64 0, .int .i64 0] 41)).alloc (.cells #[.int .i64 0, .int .i64 0] 41)) = W0 at *
  replace hW0 := Lib.hid hW0
  have pre : ∀ Q : Bool → Prop, Q ok → Q ok := fun _ h => h
  clear pre
  cases ok
  · have hno : predOkP false p b i = false := rfl
    go_enter Try.func47, Try.ntmps47
    go_upto_region 1 with fail
    rw [hW0.out]
    clear hW0
    go_wp2_with (fail)
    refine cF.mono ?_
    rintro e w1 ⟨v, rfl, N, hb1⟩
    obtain ⟨A2, c2, rfl, hs2⟩ := N.sl halfC_len
    have T8b := T8.below hb1
    have T9b := T9.below hb1
    have b1 := b0.trans (hb1.mono b0.size)
    have z1 := hb1.size
    rw [z0] at z1
    clear cF N hb1 T8 T9 b0 z0
    clear W0
    have HGx := Has.new w1 #[.slice A2 p.length c2] 76
    have T8c := T8b.alloc (.cells #[.slice A2 p.length c2] 76)
    have T9c := T9b.alloc (.cells #[.slice A2 p.length c2] 76)
    have hs3 := hs2.alloc (.cells #[.slice A2 p.length c2] 76)
    have b2 := b1.alloc b1.size (.cells #[.slice A2 p.length c2] 76)
    go_upto_region 2 with fail
    have z2 : w.heap.size + 1 + 1 < (w1.alloc (.cells #[.slice A2 p.length c2] 76)).heap.size := by simp; omega
    generalize hgw : w1.alloc (.cells #[.slice A2 p.length c2] 76) = w2 at *
    have gz : w.heap.size + 1 + 1 ≤ w1.heap.size := z1
    clear hgw hs2 T8b T9b b1 z1
    generalize w1.heap.size = g at *
    clear w1
    obtain ⟨cHGx_0, fHGx_0⟩ := HGx.2 0 _ rfl
    have lG := HGx.1
    have H8 := T8c.has
    have H9 := T9c.has
    obtain ⟨cH8_0, fH8_0⟩ := H8.2 0 _ rfl
    obtain ⟨cH8_1, fH8_1⟩ := H8.2 1 _ rfl
    obtain ⟨cH9_0, fH9_0⟩ := H9.2 0 _ rfl
    obtain ⟨cH9_1, fH9_1⟩ := H9.2 1 _ rfl
    have l8 := H8.1
    have l9 := H9.1
    go_wp2
    refine bodyPost_ret (v := .tuple #[.agg #[.int .i64 0, .int .i64 0], .agg #[.int .i64 0, .int .i64 0], .bool false]) (by simp [results, Try.results47, go_sem, *]) rfl ⟨by rw [predP_no hno, hno]; rfl, ?_⟩
    repeat (first | (with_reducible exact Below.refl _ _) | (with_reducible assumption) | (with_reducible refine below_al ?_ _) | (with_reducible refine Below.drew ?_) | (with_reducible refine below_drewN ?_ _) | (with_reducible refine below_st ?_ ?_ _) | (with_reducible refine below_tr ?_ (by assumption)) | (with_reducible exact Nat.le_refl _) | (focus (simp; done)) | (focus (simp; omega)))
  by_cases hv : p.length = 0
  · have hno : predOkP true p b i = false := by simp [predOkP, hv]
    replace hv := Lib.hid hv
    skip
    go_enter Try.func47, Try.ntmps47
    go_upto_region 1 with fail
    rw [hW0.out]
    clear hW0
    go_wp2_with (fail)
    refine cF.mono ?_
    rintro e w1 ⟨v, rfl, N, hb1⟩
    obtain ⟨A2, c2, rfl, hs2⟩ := N.sl halfC_len
    have T8b := T8.below hb1
    have T9b := T9.below hb1
    have b1 := b0.trans (hb1.mono b0.size)
    have z1 := hb1.size
    rw [z0] at z1
    clear cF N hb1 T8 T9 b0 z0
    clear W0
    have HGx := Has.new w1 #[.slice A2 p.length c2] 76
    have T8c := T8b.alloc (.cells #[.slice A2 p.length c2] 76)
    have T9c := T9b.alloc (.cells #[.slice A2 p.length c2] 76)
    have hs3 := hs2.alloc (.cells #[.slice A2 p.length c2] 76)
    have b2 := b1.alloc b1.size (.cells #[.slice A2 p.length c2] 76)
    go_upto_region 2 with fail
    have z2 : w.heap.size + 1 + 1 < (w1.alloc (.cells #[.slice A2 p.length c2] 76)).heap.size := by simp; omega
    generalize hgw : w1.alloc (.cells #[.slice A2 p.length c2] 76) = w2 at *
    have gz : w.heap.size + 1 + 1 ≤ w1.heap.size := z1
    clear hgw hs2 T8b T9b b1 z1
    generalize w1.heap.size = g at *
    clear w1
    obtain ⟨cHGx_0, fHGx_0⟩ := HGx.2 0 _ rfl
    have lG := HGx.1
    have cV := iIsVoid_c p ⟨A2, c2⟩ w2
    rw [decide_eq_true hv.out] at cV
    go_wp2_with (fail)
    refine (cV).mono ?_
    rintro e w3 ⟨rfl, hb_w3⟩
    have T8d := T8c.below hb_w3
    have T9d := T9c.below hb_w3
    have HGxd := HGx.below hb_w3
    have hsd := hs3.below hb_w3
    have bd := b2.trans (hb_w3.mono b2.size)
    clear hb_w3 T8c T9c HGx hs3 b2
    (try clear cHGx_0 fHGx_0)
    obtain ⟨cHGxd_0, fHGxd_0⟩ := HGxd.2 0 _ rfl
    have lGd := HGxd.1
    have H8 := T8d.has
    have H9 := T9d.has
    obtain ⟨cH8_0, fH8_0⟩ := H8.2 0 _ rfl
    obtain ⟨cH8_1, fH8_1⟩ := H8.2 1 _ rfl
    obtain ⟨cH9_0, fH9_0⟩ := H9.2 0 _ rfl
    obtain ⟨cH9_1, fH9_1⟩ := H9.2 1 _ rfl
    have l8 := H8.1
    have l9 := H9.1
    go_wp2
    refine bodyPost_ret (v := .tuple #[.agg #[.int .i64 0, .int .i64 0], .agg #[.int .i64 0, .int .i64 0], .bool false]) (by simp [results, Try.results47, go_sem, *]) rfl ⟨by rw [predP_no hno, hno]; rfl, ?_⟩
    repeat (first | (with_reducible exact Below.refl _ _) | (with_reducible assumption) | (with_reducible refine below_al ?_ _) | (with_reducible refine Below.drew ?_) | (with_reducible refine below_drewN ?_ _) | (with_reducible refine below_st ?_ ?_ _) | (with_reducible refine below_tr ?_ (by assumption)) | (with_reducible exact Nat.le_refl _) | (focus (simp; done)) | (focus (simp; omega)))
  have hne : p ≠ [] := fun e => hv (by rw [e]; rfl)
  cases e1 : inR b (-1000) 1000
  · have hno : predOkP true p b i = false := by simp [predOkP, e1]
    go_enter Try.func47, Try.ntmps47
    go_upto_region 1 with fail
    rw [hW0.out]
    clear hW0
    go_wp2_with (fail)
    refine cF.mono ?_
    rintro e w1 ⟨v, rfl, N, hb1⟩
    obtain ⟨A2, c2, rfl, hs2⟩ := N.sl halfC_len
    have T8b := T8.below hb1
    have T9b := T9.below hb1
    have b1 := b0.trans (hb1.mono b0.size)
    have z1 := hb1.size
    rw [z0] at z1
    clear cF N hb1 T8 T9 b0 z0
    clear W0
    have HGx := Has.new w1 #[.slice A2 p.length c2] 76
    have T8c := T8b.alloc (.cells #[.slice A2 p.length c2] 76)
    have T9c := T9b.alloc (.cells #[.slice A2 p.length c2] 76)
    have hs3 := hs2.alloc (.cells #[.slice A2 p.length c2] 76)
    have b2 := b1.alloc b1.size (.cells #[.slice A2 p.length c2] 76)
    go_upto_region 2 with fail
    have z2 : w.heap.size + 1 + 1 < (w1.alloc (.cells #[.slice A2 p.length c2] 76)).heap.size := by simp; omega
    generalize hgw : w1.alloc (.cells #[.slice A2 p.length c2] 76) = w2 at *
    have gz : w.heap.size + 1 + 1 ≤ w1.heap.size := z1
    clear hgw hs2 T8b T9b b1 z1
    generalize w1.heap.size = g at *
    clear w1
    obtain ⟨cHGx_0, fHGx_0⟩ := HGx.2 0 _ rfl
    have lG := HGx.1
    have cV := iIsVoid_c p ⟨A2, c2⟩ w2
    rw [decide_eq_false hv] at cV
    go_wp2_with (fail)
    refine (cV).mono ?_
    rintro e w3 ⟨rfl, hb_w3⟩
    have T8d := T8c.below hb_w3
    have T9d := T9c.below hb_w3
    have HGxd := HGx.below hb_w3
    have hsd := hs3.below hb_w3
    have bd := b2.trans (hb_w3.mono b2.size)
    clear hb_w3 T8c T9c HGx hs3 b2
    (try clear cHGx_0 fHGx_0)
    obtain ⟨cHGxd_0, fHGxd_0⟩ := HGxd.2 0 _ rfl
    have lGd := HGxd.1
    have cb := isMeasure_c b w3
    rw [e1] at cb
    go_wp2_with (fail)
    refine cb.mono ?_
    rintro e w' ⟨rfl, rfl⟩
    have H8 := T8d.has
    have H9 := T9d.has
    obtain ⟨cH8_0, fH8_0⟩ := H8.2 0 _ rfl
    obtain ⟨cH8_1, fH8_1⟩ := H8.2 1 _ rfl
    obtain ⟨cH9_0, fH9_0⟩ := H9.2 0 _ rfl
    obtain ⟨cH9_1, fH9_1⟩ := H9.2 1 _ rfl
    have l8 := H8.1
    have l9 := H9.1
    go_wp2
    refine bodyPost_ret (v := .tuple #[.agg #[.int .i64 0, .int .i64 0], .agg #[.int .i64 0, .int .i64 0], .bool false]) (by simp [results, Try.results47, go_sem, *]) rfl ⟨by rw [predP_no hno, hno]; rfl, ?_⟩
    repeat (first | (with_reducible exact Below.refl _ _) | (with_reducible assumption) | (with_reducible refine below_al ?_ _) | (with_reducible refine Below.drew ?_) | (with_reducible refine below_drewN ?_ _) | (with_reducible refine below_st ?_ ?_ _) | (with_reducible refine below_tr ?_ (by assumption)) | (with_reducible exact Nat.le_refl _) | (focus (simp; done)) | (focus (simp; omega)))
  cases e2 : inR i (-1000) 1000
  · have hno : predOkP true p b i = false := by simp [predOkP, e1, e2]
    go_enter Try.func47, Try.ntmps47
    go_upto_region 1 with fail
    rw [hW0.out]
    clear hW0
    go_wp2_with (fail)
    refine cF.mono ?_
    rintro e w1 ⟨v, rfl, N, hb1⟩
    obtain ⟨A2, c2, rfl, hs2⟩ := N.sl halfC_len
    have T8b := T8.below hb1
    have T9b := T9.below hb1
    have b1 := b0.trans (hb1.mono b0.size)
    have z1 := hb1.size
    rw [z0] at z1
    clear cF N hb1 T8 T9 b0 z0
    clear W0
    have HGx := Has.new w1 #[.slice A2 p.length c2] 76
    have T8c := T8b.alloc (.cells #[.slice A2 p.length c2] 76)
    have T9c := T9b.alloc (.cells #[.slice A2 p.length c2] 76)
    have hs3 := hs2.alloc (.cells #[.slice A2 p.length c2] 76)
    have b2 := b1.alloc b1.size (.cells #[.slice A2 p.length c2] 76)
    go_upto_region 2 with fail
    have z2 : w.heap.size + 1 + 1 < (w1.alloc (.cells #[.slice A2 p.length c2] 76)).heap.size := by simp; omega
    generalize hgw : w1.alloc (.cells #[.slice A2 p.length c2] 76) = w2 at *
    have gz : w.heap.size + 1 + 1 ≤ w1.heap.size := z1
    clear hgw hs2 T8b T9b b1 z1
    generalize w1.heap.size = g at *
    clear w1
    obtain ⟨cHGx_0, fHGx_0⟩ := HGx.2 0 _ rfl
    have lG := HGx.1
    have cV := iIsVoid_c p ⟨A2, c2⟩ w2
    rw [decide_eq_false hv] at cV
    go_wp2_with (fail)
    refine (cV).mono ?_
    rintro e w3 ⟨rfl, hb_w3⟩
    have T8d := T8c.below hb_w3
    have T9d := T9c.below hb_w3
    have HGxd := HGx.below hb_w3
    have hsd := hs3.below hb_w3
    have bd := b2.trans (hb_w3.mono b2.size)
    clear hb_w3 T8c T9c HGx hs3 b2
    (try clear cHGx_0 fHGx_0)
    obtain ⟨cHGxd_0, fHGxd_0⟩ := HGxd.2 0 _ rfl
    have lGd := HGxd.1
    have cb := isMeasure_c b w3
    rw [e1] at cb
    go_wp2_with (fail)
    refine cb.mono ?_
    rintro e w' ⟨rfl, rfl⟩
    have ci := isMeasure_c i w3
    rw [e2] at ci
    go_wp2_with (fail)
    refine ci.mono ?_
    rintro e w' ⟨rfl, rfl⟩
    have H8 := T8d.has
    have H9 := T9d.has
    obtain ⟨cH8_0, fH8_0⟩ := H8.2 0 _ rfl
    obtain ⟨cH8_1, fH8_1⟩ := H8.2 1 _ rfl
    obtain ⟨cH9_0, fH9_0⟩ := H9.2 0 _ rfl
    obtain ⟨cH9_1, fH9_1⟩ := H9.2 1 _ rfl
    have l8 := H8.1
    have l9 := H9.1
    go_wp2
    refine bodyPost_ret (v := .tuple #[.agg #[.int .i64 0, .int .i64 0], .agg #[.int .i64 0, .int .i64 0], .bool false]) (by simp [results, Try.results47, go_sem, *]) rfl ⟨by rw [predP_no hno, hno]; rfl, ?_⟩
    repeat (first | (with_reducible exact Below.refl _ _) | (with_reducible assumption) | (with_reducible refine below_al ?_ _) | (with_reducible refine Below.drew ?_) | (with_reducible refine below_drewN ?_ _) | (with_reducible refine below_st ?_ ?_ _) | (with_reducible refine below_tr ?_ (by assumption)) | (with_reducible exact Nat.le_refl _) | (focus (simp; done)) | (focus (simp; omega)))
  have hyes : predOkP true p b i = true := by simp [predOkP, hv, e1, e2]
  rw [hyes, predP_yes hyes]
  obtain ⟨q1, q2⟩ := inR_iff.1 e1
  obtain ⟨q3, q4⟩ := inR_iff.1 e2
  have S1 := supR (a := -b) (b := -i) hreg hne ⟨by omega, by omega⟩ ⟨by omega, by omega⟩
  have S2 := supR (a := b) (b := i) hreg hne ⟨by omega, by omega⟩ ⟨by omega, by omega⟩
  obtain ⟨y1, y2, y3⟩ := ratioOf_in5 S1.n S1.d
  obtain ⟨y4, _, y5⟩ := ratioOf_in5 S2.n S2.d
  have cS1 := fun A2 c2 W h => iSupport_c p ⟨A2, c2⟩ (-b) (-i) W hreg hne ⟨by omega, by omega⟩ ⟨by omega, by omega⟩ h
  have cS2 := fun A2 c2 W h => iSupport_c p ⟨A2, c2⟩ b i W hreg hne ⟨by omega, by omega⟩ ⟨by omega, by omega⟩ h
  have cH1 := fun W => iHundredth_c (sup p (-b) (-i)) (-1) W S1.n S1.d (.inr rfl)
  have cH2 := fun W => iHundredth_c (sup p b i) 1 W S2.n S2.d (.inl rfl)
  rw [show (sup p (-b) (-i)).n * (-1) = -(sup p (-b) (-i)).n by omega] at cH1
  rw [Int.mul_one] at cH2
  clear S1 S2 y1 y2 y3 y4 y5 hreg
  generalize sup p (-b) (-i) = s1 at *
  generalize sup p b i = s2 at *
  generalize hr1 : ratioOf (-s1.n) (100 * s1.d) = r1 at *
  generalize hr2 : ratioOf s2.n (100 * s2.d) = r2 at *
  clear hr1 hr2
  go_enter Try.func47, Try.ntmps47
  go_upto_region 1 with fail
  rw [hW0.out]
  clear hW0
  go_wp2_with (fail)
  refine cF.mono ?_
  rintro e w1 ⟨v, rfl, N, hb1⟩
  obtain ⟨A2, c2, rfl, hs2⟩ := N.sl halfC_len
  have T8b := T8.below hb1
  have T9b := T9.below hb1
  have b1 := b0.trans (hb1.mono b0.size)
  have z1 := hb1.size
  rw [z0] at z1
  clear cF N hb1 T8 T9 b0 z0
  clear W0
  have HGx := Has.new w1 #[.slice A2 p.length c2] 76
  have T8c := T8b.alloc (.cells #[.slice A2 p.length c2] 76)
  have T9c := T9b.alloc (.cells #[.slice A2 p.length c2] 76)
  have hs3 := hs2.alloc (.cells #[.slice A2 p.length c2] 76)
  have b2 := b1.alloc b1.size (.cells #[.slice A2 p.length c2] 76)
  go_upto_region 2 with fail
  have z2 : w.heap.size + 1 + 1 < (w1.alloc (.cells #[.slice A2 p.length c2] 76)).heap.size := by simp; omega
  generalize hgw : w1.alloc (.cells #[.slice A2 p.length c2] 76) = w2 at *
  have gz : w.heap.size + 1 + 1 ≤ w1.heap.size := z1
  clear hgw hs2 T8b T9b b1 z1
  generalize w1.heap.size = g at *
  clear w1
  obtain ⟨cHGx_0, fHGx_0⟩ := HGx.2 0 _ rfl
  have lG := HGx.1
  have cV := iIsVoid_c p ⟨A2, c2⟩ w2
  rw [decide_eq_false hv] at cV
  go_wp2_with (fail)
  refine (cV).mono ?_
  rintro e w3 ⟨rfl, hb_w3⟩
  have T8d := T8c.below hb_w3
  have T9d := T9c.below hb_w3
  have HGxd := HGx.below hb_w3
  have hsd := hs3.below hb_w3
  have bd := b2.trans (hb_w3.mono b2.size)
  clear hb_w3 T8c T9c HGx hs3 b2
  (try clear cHGx_0 fHGx_0)
  obtain ⟨cHGxd_0, fHGxd_0⟩ := HGxd.2 0 _ rfl
  have lGd := HGxd.1
  have cb := isMeasure_c b w3
  rw [e1] at cb
  go_wp2_with (fail)
  refine cb.mono ?_
  rintro e w' ⟨rfl, rfl⟩
  have ci := isMeasure_c i w3
  rw [e2] at ci
  go_wp2_with (fail)
  refine ci.mono ?_
  rintro e w' ⟨rfl, rfl⟩
  have wn1 : IntKind.i64.wrap (-b) = -b := IntWalk.i64_in _ (by omega)
  have wn2 : IntKind.i64.wrap (-i) = -i := IntWalk.i64_in _ (by omega)
  go_wp2_with (fail)
  refine (cS1 A2 c2 _ hsd).mono ?_
  rintro e w4 ⟨rfl, hb_w4⟩
  have T8e := T8d.below hb_w4
  have T9e := T9d.below hb_w4
  have HGxe := HGxd.below hb_w4
  have hse := hsd.below hb_w4
  have be := bd.trans (hb_w4.mono bd.size)
  clear hb_w4 T8d T9d HGxd hsd bd
  (try clear cHGxd_0 fHGxd_0)
  obtain ⟨cHGxe_0, fHGxe_0⟩ := HGxe.2 0 _ rfl
  have lGe := HGxe.1
  go_wp2_with (fail)
  refine (cH1 _).mono ?_
  rintro e w5 ⟨rfl, hb_w5⟩
  have T8f := T8e.below hb_w5
  have T9f := T9e.below hb_w5
  have HGxf := HGxe.below hb_w5
  have hsf := hse.below hb_w5
  have bf := be.trans (hb_w5.mono be.size)
  clear hb_w5 T8e T9e HGxe hse be
  (try clear cHGxe_0 fHGxe_0)
  obtain ⟨cHGxf_0, fHGxf_0⟩ := HGxf.2 0 _ rfl
  have lGf := HGxf.1
  have T13 := HasT.new w5 [.int .i64 r1.n, .int .i64 r1.d] 41
  have T8g := T8f.alloc (.cells #[.int .i64 r1.n, .int .i64 r1.d] 41)
  have T9g := T9f.alloc (.cells #[.int .i64 r1.n, .int .i64 r1.d] 41)
  have HGxg := HGxf.alloc (.cells #[.int .i64 r1.n, .int .i64 r1.d] 41)
  have hsg := hsf.alloc (.cells #[.int .i64 r1.n, .int .i64 r1.d] 41)
  have bg := bf.alloc bf.size (.cells #[.int .i64 r1.n, .int .i64 r1.d] 41)
  have n13 : g < w5.heap.size := HGxf.1
  clear T8f T9f HGxf hsf bf cHGxf_0 fHGxf_0 lGf
  go_upto_region 5 with fail
  generalize hgw : w5.alloc (.cells #[.int .i64 r1.n, .int .i64 r1.d] 41) = w6 at *
  clear hgw
  generalize hg13 : w5.heap.size = g13 at *
  clear hg13
  obtain ⟨cHGxg_0, fHGxg_0⟩ := HGxg.2 0 _ rfl
  have lGg := HGxg.1
  go_wp2_with (fail)
  refine (cS2 A2 c2 _ hsg).mono ?_
  rintro e w7 ⟨rfl, hb_w7⟩
  have T13b := T13.below hb_w7
  clear T13
  have T8h := T8g.below hb_w7
  have T9h := T9g.below hb_w7
  have HGxh := HGxg.below hb_w7
  have hsh := hsg.below hb_w7
  have bh := bg.trans (hb_w7.mono bg.size)
  clear hb_w7 T8g T9g HGxg hsg bg
  (try clear cHGxg_0 fHGxg_0)
  obtain ⟨cHGxh_0, fHGxh_0⟩ := HGxh.2 0 _ rfl
  have lGh := HGxh.1
  go_wp2_with (fail)
  refine (cH2 _).mono ?_
  rintro e w8 ⟨rfl, hb_w8⟩
  have T13c := T13b.below hb_w8
  clear T13b
  have T8j := T8h.below hb_w8
  have T9j := T9h.below hb_w8
  have HGxj := HGxh.below hb_w8
  have hsj := hsh.below hb_w8
  have bj := bh.trans (hb_w8.mono bh.size)
  clear hb_w8 T8h T9h HGxh hsh bh
  (try clear cHGxh_0 fHGxh_0)
  obtain ⟨cHGxj_0, fHGxj_0⟩ := HGxj.2 0 _ rfl
  have lGj := HGxj.1
  have T13d := T13c.alloc (.cells #[.int .i64 r2.n, .int .i64 r2.d] 41)
  have n1314 : g13 < w8.heap.size := lt_of_heap T13c
  clear T13c
  have T14 := HasT.new w8 [.int .i64 r2.n, .int .i64 r2.d] 41
  have T8k := T8j.alloc (.cells #[.int .i64 r2.n, .int .i64 r2.d] 41)
  have T9k := T9j.alloc (.cells #[.int .i64 r2.n, .int .i64 r2.d] 41)
  have HGxk := HGxj.alloc (.cells #[.int .i64 r2.n, .int .i64 r2.d] 41)
  have hsk := hsj.alloc (.cells #[.int .i64 r2.n, .int .i64 r2.d] 41)
  have bk := bj.alloc bj.size (.cells #[.int .i64 r2.n, .int .i64 r2.d] 41)
  have n14 : g < w8.heap.size := HGxj.1
  clear T8j T9j HGxj hsj bj cHGxj_0 fHGxj_0 lGj
  go_upto_region 6 with fail
  generalize hgw : w8.alloc (.cells #[.int .i64 r2.n, .int .i64 r2.d] 41) = w9 at *
  clear hgw
  generalize hg14 : w8.heap.size = g14 at *
  clear hg14 HGxk hsk
  have hBW6 : w.heap.size ≤ w9.heap.size := bk.size
  have hT6_0 := T8k
  have hT6_1 := T9k
  have hT6_2 := T13d
  have hT6_3 := T14
  obtain ⟨I6, hI6⟩ : ∃ I : Act → (Nat → Bool) → Act → World → Prop, I = (fun a0 L a w' => FrameOf a0 a [51, 52, 10] ∧ Below (w.heap.size) w9 w' ∧ (L 0 = true → a.tmps[51]?.getD undef = .agg #[.int .i64 r1.n, .int .i64 r1.d]) ∧ (L 1 = true → a.tmps[52]?.getD undef = .agg #[.int .i64 r2.n, .int .i64 r2.d]) ∧ (L 4 = true → a.tmps[10]?.getD undef = .bool true) ∧ (L 2 = true → L 0 = true) ∧ (L 3 = true → L 1 = true) ∧ (L 2 = false → HasT w' (w.heap.size) 41 [.int .i64 0, .int .i64 0]) ∧ (L 2 = true → HasT w' (w.heap.size) 41 [.int .i64 r1.n, .int .i64 r1.d]) ∧ (L 3 = false → HasT w' (w.heap.size + 1) 41 [.int .i64 0, .int .i64 0]) ∧ (L 3 = true → HasT w' (w.heap.size + 1) 41 [.int .i64 r2.n, .int .i64 r2.d]) ∧ HasT w' (g13) 41 [.int .i64 r1.n, .int .i64 r1.d] ∧ HasT w' (g14) 41 [.int .i64 r2.n, .int .i64 r2.d]) := ⟨_, rfl⟩
  refine wp_region_I0 (by kernel_rfl) (by kernel_rfl) I6 ?h0 ?hs ?he
  case h0 =>
    rw [hI6]
    exact ⟨FrameOf.refl _ _, (Below.refl _ _).drew, fun h => absurd h (by simp), fun h => absurd h (by simp), fun h => absurd h (by simp), fun h => absurd h (by simp), fun h => absurd h (by simp), fun _ => hT6_0, fun h => absurd h (by simp), fun _ => hT6_1, fun h => absurd h (by simp), hT6_2, hT6_3⟩
  case hs =>
    intro L a w' i o ho hLi hd hI'
    rw [hI6] at hI'
    obtain ⟨hF, hB, ci0, ci1, ci4, cp2_0, cp3_1, cy0, cz0, cy1, cz1, cy2, cy3⟩ := hI'
    have hi : i < 5 := by
      rcases Nat.lt_or_ge i 5 with h | h
      · exact h
      · rw [List.getElem?_eq_none (by simpa using h)] at ho; cases ho
    have zB := hB.size
    have hBw : w.heap.size ≤ w'.heap.size := Nat.le_trans hBW6 zB
    obtain rfl | rfl | rfl | rfl | rfl : i = 0 ∨ i = 1 ∨ i = 2 ∨ i = 3 ∨ i = 4 := by omega
    · simp only [List.getElem?_cons_zero, Option.some.injEq] at ho
      subst ho
      rw [if_pos (by simp [Region.wanted])]
      have e0 : a.tmps[13]?.getD undef = .pointer (some ⟨g13, 0, none⟩) := hF.get (by decide)
      have HT2 := cy2
      have HH2 := HT2.has
      have lH2 := HH2.1
      obtain ⟨cH2_0, fH2_0⟩ := HH2.2 0 _ rfl
      obtain ⟨cH2_1, fH2_1⟩ := HH2.2 1 _ rfl
      simp [go_sem, Array.getD_eq_getD_getElem?, e0, cH2_0, cH2_1]
      rw [hI6]
      exact ⟨hF.put (by decide) _, hB, fun _ => put_get_self (hF.lt (by simp)) _, pgK ci1 (by decide) rfl, pgK ci4 (by decide) rfl, fun _ => by simp, prK cp3_1 rfl, knK cy0 rfl, fun h => cz0 (by simpa using h), knK cy1 rfl, fun h => cz1 (by simpa using h), cy2, cy3⟩
    · simp only [List.getElem?_cons_zero, List.getElem?_cons_succ, Option.some.injEq] at ho
      subst ho
      rw [if_pos (by simp [Region.wanted])]
      have e0 : a.tmps[14]?.getD undef = .pointer (some ⟨g14, 0, none⟩) := hF.get (by decide)
      have HT3 := cy3
      have HH3 := HT3.has
      have lH3 := HH3.1
      obtain ⟨cH3_0, fH3_0⟩ := HH3.2 0 _ rfl
      obtain ⟨cH3_1, fH3_1⟩ := HH3.2 1 _ rfl
      simp [go_sem, Array.getD_eq_getD_getElem?, e0, cH3_0, cH3_1]
      rw [hI6]
      exact ⟨hF.put (by decide) _, hB, pgK ci0 (by decide) rfl, fun _ => put_get_self (hF.lt (by simp)) _, pgK ci4 (by decide) rfl, prK cp2_0 rfl, fun _ => by simp, knK cy0 rfl, fun h => cz0 (by simpa using h), knK cy1 rfl, fun h => cz1 (by simpa using h), cy2, cy3⟩
    · simp only [List.getElem?_cons_zero, List.getElem?_cons_succ, Option.some.injEq] at ho
      subst ho
      rw [if_pos (by simp [Region.wanted])]
      have e0 : a.tmps[8]?.getD undef = .pointer (some ⟨w.heap.size, 0, none⟩) := hF.get (by decide)
      have d0 := hd { on := 0, ground := .data } (by simp) (by decide)
      have v0 := ci0 d0
      have HT0 := cy0 hLi
      have HH0 := HT0.has
      have lH0 := HH0.1
      obtain ⟨cH0_0, fH0_0⟩ := HH0.2 0 _ rfl
      obtain ⟨cH0_1, fH0_1⟩ := HH0.2 1 _ rfl
      simp [go_sem, Array.getD_eq_getD_getElem?, e0, v0, cH0_0, fH0_0, cH0_1, fH0_1]
      rw [hI6]
      exact ⟨hF, below_setCells_at (by omega) [_, _] 0 _ hB, kpK ci0 rfl, kpK ci1 rfl, kpK ci4 rfl, fun _ => by simp [d0], prK cp3_1 rfl, fun h => by simp at h, fun _ => HT0.store (us := [.int .i64 r1.n, .int .i64 r1.d]) rfl, fun h => (cy1 (by simpa using h)).other (g' := w.heap.size) (by omega) [.int .i64 r1.n, .int .i64 r1.d] 0, fun h => (cz1 (by simpa using h)).other (g' := w.heap.size) (by omega) [.int .i64 r1.n, .int .i64 r1.d] 0, (cy2).other (g' := w.heap.size) (by omega) [.int .i64 r1.n, .int .i64 r1.d] 0, (cy3).other (g' := w.heap.size) (by omega) [.int .i64 r1.n, .int .i64 r1.d] 0⟩
    · simp only [List.getElem?_cons_zero, List.getElem?_cons_succ, Option.some.injEq] at ho
      subst ho
      rw [if_pos (by simp [Region.wanted])]
      have e0 : a.tmps[9]?.getD undef = .pointer (some ⟨w.heap.size + 1, 0, none⟩) := hF.get (by decide)
      have d1 := hd { on := 1, ground := .data } (by simp) (by decide)
      have v1 := ci1 d1
      have HT1 := cy1 hLi
      have HH1 := HT1.has
      have lH1 := HH1.1
      obtain ⟨cH1_0, fH1_0⟩ := HH1.2 0 _ rfl
      obtain ⟨cH1_1, fH1_1⟩ := HH1.2 1 _ rfl
      simp [go_sem, Array.getD_eq_getD_getElem?, e0, v1, cH1_0, fH1_0, cH1_1, fH1_1]
      rw [hI6]
      exact ⟨hF, below_setCells_at (by omega) [_, _] 0 _ hB, kpK ci0 rfl, kpK ci1 rfl, kpK ci4 rfl, prK cp2_0 rfl, fun _ => by simp [d1], fun h => (cy0 (by simpa using h)).other (g' := w.heap.size + 1) (by omega) [.int .i64 r2.n, .int .i64 r2.d] 0, fun h => (cz0 (by simpa using h)).other (g' := w.heap.size + 1) (by omega) [.int .i64 r2.n, .int .i64 r2.d] 0, fun h => by simp at h, fun _ => HT1.store (us := [.int .i64 r2.n, .int .i64 r2.d]) rfl, (cy2).other (g' := w.heap.size + 1) (by omega) [.int .i64 r2.n, .int .i64 r2.d] 0, (cy3).other (g' := w.heap.size + 1) (by omega) [.int .i64 r2.n, .int .i64 r2.d] 0⟩
    · simp only [List.getElem?_cons_zero, List.getElem?_cons_succ, Option.some.injEq] at ho
      subst ho
      rw [if_pos (by simp [Region.wanted])]
      simp [go_sem]
      rw [hI6]
      exact ⟨hF.put (by decide) _, hB, pgK ci0 (by decide) rfl, pgK ci1 (by decide) rfl, fun _ => put_get_self (hF.lt (by simp)) _, prK cp2_0 rfl, prK cp3_1 rfl, knK cy0 rfl, fun h => cz0 (by simpa using h), knK cy1 rfl, fun h => cz1 (by simpa using h), cy2, cy3⟩
  case he =>
    intro L a' w6 hL hI'
    rw [hI6] at hI'
    obtain ⟨hF, hb6, ci0, ci1, ci4, cp2_0, cp3_1, cy0, cz0, cy1, cz1, cy2, cy3⟩ := hI'
    have e6_4 := ci4 (hL 4 (by decide))
    have HT6_0 := cz0 (hL 2 (by decide))
    have HT6_1 := cz1 (hL 3 (by decide))
    have HT6_2 := cy2
    have HT6_3 := cy3
    have hout := hF.outG (by simp)
    simp only [List.foldl_cons, List.foldl_nil, e6_4] at hout
    rw [hout]
    generalize a'.tmps[51]?.getD undef = x6_51
    generalize a'.tmps[52]?.getD undef = x6_52
    clear hout hI6 hF hL ci0 ci1 ci4 cp2_0 cp3_1 cy0 cz0 cy1 cz1 cy2 cy3
    go_simp
    have HR8 := HT6_0.has
    have HR9 := HT6_1.has
    obtain ⟨cHR8_0, fHR8_0⟩ := HR8.2 0 _ rfl
    obtain ⟨cHR8_1, fHR8_1⟩ := HR8.2 1 _ rfl
    obtain ⟨cHR9_0, fHR9_0⟩ := HR9.2 0 _ rfl
    obtain ⟨cHR9_1, fHR9_1⟩ := HR9.2 1 _ rfl
    have l8 := HR8.1
    have l9 := HR9.1
    have BF := bk.trans hb6
    clear HT6_0 HT6_1 HT6_2 HT6_3
    go_wp2
    refine bodyPost_ret (v := .tuple #[.agg #[.int .i64 r1.n, .int .i64 r1.d], .agg #[.int .i64 r2.n, .int .i64 r2.d], .bool true]) (by simp [results, Try.results47, go_sem, *]) rfl ⟨rfl, BF⟩
end Go.Proofs.Ytbdihgcjopbnjaa
