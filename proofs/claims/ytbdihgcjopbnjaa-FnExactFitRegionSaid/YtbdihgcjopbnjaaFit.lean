/-
  FitRegion: of the program and of the reference.
  Conditions: the slice holds at most 2^20 records.
-/
import Derived.Test.YtbdihgcjopbnjaaMake
import Derived.Test.YtbdihgcjopbnjaaRecH
import Derived.Test.YtbdihgcjopbnjaaRec2
namespace Go.Proofs.Ytbdihgcjopbnjaa
open Go.RowKit

def badRec (x : Record) (err : Int) : Bool := decide (x.before = 0) && decide (x.input = 0) && !inR x.after (-err) err
def fitOk (xs : List Record) (err : Int) : Bool := recordsOk xs && inR err 0 1000
def fitHs (xs : List Record) (err : Int) : List Half := xs.flatMap fun x => recordHalves x err
def fitBad (xs : List Record) (err : Int) : Bool := xs.any fun x => badRec x err
/-- The fitted region. -/
def fitR (xs : List Record) (err : Int) : List Half := if fitOk xs err = true ∧ fitBad xs err = false then meetI (meetL (fitHs xs err)) else []
theorem recordHalves_ok {x : Record} {err : Int} : ∀ h ∈ recordHalves x err, halfOk h = true := by
  intro h hh
  unfold recordHalves at hh
  split at hh
  · rename_i hc
    obtain ⟨c1, c2, c3⟩ := hc
    obtain ⟨r1, r2, r3⟩ := recOk_iff.1 c1
    have e := inR_iff.1 c2
    have h1 := halfOf_some (a := x.before) (b := x.input) (c := 100 * (x.after + err)) (by omega) (by omega) (by omega) c3
    have h2 := halfOf_some (a := -x.before) (b := -x.input) (c := 100 * (err - x.after)) (by omega) (by omega) (by omega) (by omega)
    have key : ∀ a b c : Int, halfOf a b c = some (redHalf a b c) → halfOk (redHalf a b c) = true := by
      intro a b c h
      unfold halfOf at h
      split at h
      · cases h
      · split at h
        · assumption
        · cases h
    simp only [List.mem_cons, List.not_mem_nil, or_false] at hh
    rcases hh with rfl | rfl
    · exact key _ _ _ h1
    · exact key _ _ _ h2
  · cases hh
theorem recordHalves_len (x : Record) (err : Int) : (recordHalves x err).length ≤ 2 := by
  unfold recordHalves; split <;> simp
theorem fitHs_ok {xs : List Record} {err : Int} : ∀ h ∈ fitHs xs err, halfOk h = true := by
  intro h hh
  obtain ⟨x, _, hx⟩ := List.mem_flatMap.1 hh
  exact recordHalves_ok h hx
theorem fitHs_len (xs : List Record) (err : Int) : (fitHs xs err).length ≤ xs.length * 2 := by
  induction xs with
  | nil => simp [fitHs]
  | cons x r ih =>
    have := recordHalves_len x err
    unfold fitHs at *
    simp only [List.flatMap_cons, List.length_append, List.length_cons]; omega
theorem fitHs_step {xs : List Record} {err : Int} {k : Nat} (h : k < xs.length) : fitHs (xs.take (k + 1)) err = fitHs (xs.take k) err ++ recordHalves xs[k] err := by
  unfold fitHs
  rw [take_succ' xs k h, List.flatMap_append]; simp
theorem fitBad_yes {xs : List Record} {err : Int} {k : Nat} (h : k < xs.length) (hb : badRec xs[k] err = true) : fitBad xs err = true := by
  unfold fitBad; rw [List.any_eq_true]; exact ⟨_, List.getElem_mem h, hb⟩
theorem fitBad_no {xs : List Record} {err : Int} (h : (xs.take xs.length).any (fun x => badRec x err) = false) : fitBad xs err = false := by
  rw [List.take_length] at h; exact h
theorem any_step {α : Type} {p : α → Bool} {xs : List α} {k : Nat} (h : k < xs.length) (h1 : (xs.take k).any p = false) (h2 : p xs[k] = false) : (xs.take (k + 1)).any p = false := by
  rw [take_succ' xs k h, List.any_append, h1]; simp [h2]
theorem meetI_len (l : List Half) : (meetI l).length ≤ l.length := by
  unfold meetI; split
  · simp
  · exact List.length_filter_le _ _
/-- A fit has few edges. -/
theorem fit_few {xs : List Record} {err : Int} (h : recordsOk xs = true) : meetOk (meetL (fitHs xs err)) = true ∧ meetR (meetL (fitHs xs err)) = meetI (meetL (fitHs xs err)) := by
  have h1 : xs.length ≤ 12 := by simp only [recordsOk, Bool.and_eq_true, decide_eq_true_eq] at h; exact h.2
  have h2 := fitHs_len xs err
  have h3 := meetL_len (fitHs xs err)
  have h4 := meetI_len (meetL (fitHs xs err))
  have h5 : meetOk (meetL (fitHs xs err)) = true := by unfold meetOk; rw [decide_eq_true_eq]; omega
  exact ⟨h5, by unfold meetR; rw [if_pos h5]⟩
theorem New.nilcap {α : Type} {T sz base n c : Nat} {enc : α → List Value} {w : World} {A : Option Addr} {xs : List α} (h : New T sz enc w base (.slice A n c) xs) : A = none → c = 0 := by
  intro e
  obtain ⟨A', cap', e2, h1, h2⟩ := h
  injection e2 with e3 _ e4
  subst e3 e4
  rcases h2 with ⟨hv, _⟩ | ⟨g, cap', cur, hv, _⟩
  · injection hv
  · injection hv with hA; rw [e] at hA; cases hA

set_option maxRecDepth 100000 in
set_option maxHeartbeats 8000000 in
theorem iFit_c (A : Option Addr) (xs : List Record) (cap : Nat) (err : Int) (w : World) (hl : xs.length ≤ 1048577) (_ : In64 err) (hsl : Sl 3 recordC w A xs) :
    Calls Try.prog 36 #[.slice A xs.length cap, .int .i64 err] w fun e w' => ∃ v, e = .returned (.tuple #[.agg #[v], .bool (fitOk xs err)]) ∧ New 177 3 halfC w' w.heap.size v (fitR xs err) ∧ Below w.heap.size w w' := by
  obtain ⟨i0, hi0, hz0, hz1, hz2⟩ := info_parts (show (Try.prog.info? 177).map (fun i => (i.zero, i.size, i.bytes)) = some (some (.agg #[.int .i64 0, .int .i64 0, .int .i64 0]), 3, 24) by kernel_rfl)
  have c0 := fun W h => iRecordsOkB_c A xs cap W hl h
  have c1 := fun W => isError_c err W
  have hdef := Lib.hid (show fitOk xs err = (recordsOk xs && inR err 0 1000) ∧ fitR xs err = if fitOk xs err = true ∧ fitBad xs err = false then meetI (meetL (fitHs xs err)) else [] from ⟨rfl, rfl⟩)
  have H0 : Has (w.alloc (.cells #[.slice none 0 0] 76)) w.heap.size [.slice none 0 0] := by
    repeat (first | ((with_reducible refine Has.new_at ?_ _ _ rfl); (first | rfl | (focus (simp; done)))) | (with_reducible refine Has.set_ ?_ ?_ _) | (with_reducible refine Has.alloc ?_ _) | (with_reducible refine Has.below ?_ (by assumption)) | (focus (simp; done)) | (focus (simp; omega)))
  have b0 : Below w.heap.size w (w.alloc (.cells #[.slice none 0 0] 76)) := by
    repeat (first | (with_reducible exact Below.refl _ _) | (with_reducible assumption) | (with_reducible refine below_al ?_ _) | (with_reducible refine Below.drew ?_) | (with_reducible refine below_drewN ?_ _) | (with_reducible refine below_st ?_ ?_ _) | (with_reducible refine below_tr ?_ (by assumption)) | (with_reducible exact Nat.le_refl _) | (focus (simp; done)) | (focus (simp; omega)))
  have hs0 := hsl.below b0
  cases e0 : recordsOk xs
  · rw [e0] at c0
    have h1 := Lib.hid (show fitOk xs err = false by rw [hdef.out.1, e0]; rfl)
    have h2 := Lib.hid (show fitR xs err = [] by rw [hdef.out.2, h1.out]; rfl)
    go_enter Try.func36, Try.ntmps36
    go_wp2_with (fail)
    refine (c0 _ hs0).mono ?_
    rintro e w1 ⟨rfl, hb1⟩
    have H1 := H0.below hb1
    have b1 := below_tr b0 hb1
    have l1 := H1.1
    obtain ⟨cH1_0, fH1_0⟩ := H1.2 0 _ rfl
    go_wp2
    refine bodyPost_ret (v := .tuple #[.agg #[.slice none 0 0], .bool false]) (by simp [results, Try.results36, go_sem, cH1_0]) rfl ⟨_, by rw [h1.out], ?_, ?_⟩
    · rw [h2.out]; exact ⟨none, 0, rfl, by simp, .inl ⟨rfl, rfl⟩⟩
    · exact b1.setCell (Nat.le_refl _) _
  cases e1 : inR err 0 1000
  · rw [e0] at c0
    rw [e1] at c1
    have h1 := Lib.hid (show fitOk xs err = false by rw [hdef.out.1, e0, e1]; rfl)
    have h2 := Lib.hid (show fitR xs err = [] by rw [hdef.out.2, h1.out]; rfl)
    go_enter Try.func36, Try.ntmps36
    go_wp2_with (fail)
    refine (c0 _ hs0).mono ?_
    rintro e w1 ⟨rfl, hb1⟩
    have H1 := H0.below hb1
    have b1 := below_tr b0 hb1
    have l1 := H1.1
    obtain ⟨cH1_0, fH1_0⟩ := H1.2 0 _ rfl
    go_wp2_with (fail)
    refine (c1 _).mono ?_
    rintro e w' ⟨rfl, rfl⟩
    go_wp2
    refine bodyPost_ret (v := .tuple #[.agg #[.slice none 0 0], .bool false]) (by simp [results, Try.results36, go_sem, cH1_0]) rfl ⟨_, by rw [h1.out], ?_, ?_⟩
    · rw [h2.out]; exact ⟨none, 0, rfl, by simp, .inl ⟨rfl, rfl⟩⟩
    · exact b1.setCell (Nat.le_refl _) _
  have h1 := Lib.hid (show fitOk xs err = true by rw [hdef.out.1, e0, e1]; rfl)
  have hyes := Lib.hid (fun (e : fitBad xs err = true) => show fitR xs err = [] from by rw [hdef.out.2, if_neg]; rw [e]; simp)
  have hno := Lib.hid (fun (e : (xs.take xs.length).any (fun x => badRec x err) = false) => show fitR xs err = meetI (meetL (fitHs xs err)) from by rw [hdef.out.2, if_pos ⟨h1.out, fitBad_no e⟩])
  have hfew := Lib.hid (fit_few (err := err) e0)
  have hst := Lib.hid (fun k h => @fitHs_step xs err k h)
  have hby := Lib.hid (fun k h => @fitBad_yes xs err k h)
  have hbs := Lib.hid (fun k h h1 h2 => @any_step Record (fun x => badRec x err) xs k h h1 h2)
  have hfl := Lib.hid (fitHs_len xs err)
  have hln : xs.length ≤ 12 := by simp only [recordsOk, Bool.and_eq_true, decide_eq_true_eq] at e0; exact e0.2
  have hln2 := Lib.hid (fun k => fitHs_len (xs.take k) err)
  obtain ⟨er1, er2⟩ := inR_iff.1 e1
  rw [e0] at c0
  rw [e1] at c1
  clear hdef e0 e1
  have hHok := Lib.hid (@fitHs_ok xs err)
  go_enter Try.func36, Try.ntmps36
  go_wp2_with (fail)
  refine (c0 _ hs0).mono ?_
  rintro e w1 ⟨rfl, hb1⟩
  have H1 := H0.below hb1
  have b1 := below_tr b0 hb1
  have hs1 := hs0.below hb1
  have l1 := H1.1
  clear H0 b0 hs0 hb1 c0
  go_wp2_with (fail)
  refine (c1 _).mono ?_
  rintro e w' ⟨rfl, rfl⟩
  clear c1

  go_wp2
  go_loopw [5, 6, 8, 20] (fun v5 vo _ i wr => ∃ k : Nat, v5 = .bool false ∧ k ≤ xs.length ∧ i = .int .i64 k ∧ New 177 3 halfC wr (w.heap.size + 1) vo (fitHs (xs.take k) err) ∧ Hid ((xs.take k).any (fun x => badRec x err) = false) ∧ Below (w.heap.size + 1) w1 wr) (fun _ _ _ i _ => xs.length - (intOf i).toNat)
  case atStart => exact ⟨0, rfl, Nat.zero_le _, rfl, ⟨none, 0, rfl, by simp [fitHs], .inl ⟨rfl, rfl⟩⟩, by simp [Hid], Below.refl _ _⟩
  case round =>
    obtain ⟨k, rfl, hk, rfl, N, hvd, hbr⟩ := hrel
    have H0 := H1.keepB hbr (Nat.lt_succ_self _)
    have bw : Below w.heap.size w wr := b1.trans (hbr.mono (Nat.le_succ _))
    have hsr : Sl 3 recordC wr A xs := hsl.below bw
    have hgr : w.heap.size + 1 ≤ wr.heap.size := H0.1
    obtain ⟨Ap, cp, rfl, hrp⟩ := N
    have N : New 177 3 halfC wr (w.heap.size + 1) (.slice Ap (fitHs (xs.take k) err).length cp) (fitHs (xs.take k) err) := ⟨Ap, cp, rfl, hrp⟩
    clear hrp
    by_cases hlt : k < xs.length
    · obtain ⟨b, off, rfl, hblt, hc⟩ := hsr.at_ hlt
      have g0 := hc 0 _ rfl
      have g1 := hc 1 _ rfl
      have g2 := hc 2 _ rfl
      simp only [Nat.add_zero] at g0
      have i1 : (k : Int) < (xs.length : Int) := by omega
      have hst1 := hst.out k hlt
      have hby1 := Lib.hid (fun e => hyes.out (hby.out k hlt e))
      have hbs1 := Lib.hid (hbs.out k hlt hvd.out)
      have hl2 := hln2.out k
      rw [List.length_take] at hl2
      have hl3 : (fitHs (xs.take k) err).length ≤ 24 := by omega
      have hl4 := recordHalves_len xs[k] err
      have cR := fun W => iRecordHalves_c xs[k] err W
      clear hc hvd hl2
      generalize hx : xs[k] = x at *
      clear hx
      generalize recordHalves x err = R at *
      generalize fitHs (xs.take k) err = E at *
      have hbd : badRec x err = (decide (x.before = 0) && decide (x.input = 0) && !inR x.after (-err) err) := rfl
      have cI := fun v h W => inRange_v x.after (-err) err v h W
      have HX := Has.new wr #[.int .i64 x.before, .int .i64 x.input, .int .i64 x.after] 95
      have Nx := N.alloc (.cells #[.int .i64 x.before, .int .i64 x.input, .int .i64 x.after] 95)
      have H0x := H0.alloc (.cells #[.int .i64 x.before, .int .i64 x.input, .int .i64 x.after] 95)
      have hbx := hbr.alloc hgr (.cells #[.int .i64 x.before, .int .i64 x.input, .int .i64 x.after] 95)
      have bwx := below_al bw (.cells #[.int .i64 x.before, .int .i64 x.input, .int .i64 x.after] 95)
      go_upto_region 7 with fail
      generalize hW : wr.alloc (.cells #[.int .i64 x.before, .int .i64 x.input, .int .i64 x.after] 95) = wa at *
      have hga : w.heap.size + 1 ≤ wa.heap.size := by rw [← hW]; simp only [World.size_alloc]; omega
      clear hW g0 g1 g2 hblt H0 N hbr bw hsr
      generalize hgx : wr.heap.size = gx at *
      clear hgx
      have lX := HX.1
      have l0 := H0x.1
      obtain ⟨cHX_0, fHX_0⟩ := HX.2 0 _ rfl
      obtain ⟨cHX_1, fHX_1⟩ := HX.2 1 _ rfl
      obtain ⟨cHX_2, fHX_2⟩ := HX.2 2 _ rfl
      obtain ⟨cH0x_0, fH0x_0⟩ := H0x.2 0 _ rfl
      have hlE : E.length + R.length ≤ 1073741824 := by omega
      by_cases hb : x.before = 0
      · by_cases hi : x.input = 0
        · cases hr : inR x.after (-err) err
          · have h3 := Lib.hid (hby1.out (by rw [hbd, decide_eq_true hb, decide_eq_true hi, hr]; rfl))
            clear hst1 hbs1 hby1 hbd
            go_wp2_with (fail)
            refine (cI _ hr _).mono ?_
            rintro e w' ⟨rfl, rfl⟩
            go_wp2
            refine bodyPost_ret (v := .tuple #[.agg #[.slice none 0 0], .bool true]) (by simp [results, Try.results36, go_sem, cH0x_0]) rfl ⟨_, by rw [h1.out], ?_, ?_⟩
            · rw [h3.out]; exact ⟨none, 0, rfl, by simp, .inl ⟨rfl, rfl⟩⟩
            · exact bwx.setCell (Nat.le_refl _) _
          · have hv2 := Lib.hid (hbs1.out (by simp only [hbd, hr]; simp))
            clear hbs1 hby1 hbd
            obtain ⟨xb, xi, xa⟩ := x
            simp only at hb hi
            subst hb hi
            simp only at hr cI cR cHX_0 cHX_1 cHX_2 hst1
            go_wp2_with (fail)
            refine (cI _ hr _).mono ?_
            rintro e w' ⟨rfl, rfl⟩
            go_wp2_with (fail)
            refine (cR _).mono ?_
            rintro e w3 ⟨v3, rfl, N3, hb3⟩
            obtain ⟨A3, k3, rfl, hA3⟩ := N3.sl halfC_len
            have hn3 := N3.nilcap
            have N4 := Nx.below hb3 (Nat.le_refl _)
            have hb4 : Below (w.heap.size + 1) w1 w3 := hbx.trans (hb3.mono hga)
            have hg3 : w.heap.size + 1 ≤ w3.heap.size := Nat.le_trans hga hb3.size
            clear N3 HX H0x cHX_0 cHX_1 cHX_2 fHX_0 fHX_1 fHX_2 cH0x_0 fH0x_0
            go_wp2_with (at_builtin; refine wpList_appS halfC_len _ rfl _ _ 74 rfl (w.heap.size + 1) i0 _ 24 Try.underlying74 hi0 hz0 hz1 hz2 rfl (by decide) rfl N4 A3 k3 rfl hA3 hn3 halfC_one hb4 hg3 hlE (by decide) ?_)
            intro v5 w5 N5 hb5
            go_wp2
            go_roundw
            case rel => exact ⟨k + 1, rfl, by omega, by go_num, by rw [hst1]; exact N5, hv2, hb5⟩
            case measure => simp [intOf]; omega
        · have hv2 := Lib.hid (hbs1.out (by simp only [hbd, decide_eq_false hi]; simp))
          clear hbs1 hby1 hbd
          obtain ⟨xb, xi, xa⟩ := x
          simp only at hb hi
          subst hb
          simp only at cI cR cHX_0 cHX_1 cHX_2 hst1
          go_wp2_with (fail)
          refine (cR _).mono ?_
          rintro e w3 ⟨v3, rfl, N3, hb3⟩
          obtain ⟨A3, k3, rfl, hA3⟩ := N3.sl halfC_len
          have hn3 := N3.nilcap
          have N4 := Nx.below hb3 (Nat.le_refl _)
          have hb4 : Below (w.heap.size + 1) w1 w3 := hbx.trans (hb3.mono hga)
          have hg3 : w.heap.size + 1 ≤ w3.heap.size := Nat.le_trans hga hb3.size
          clear N3 HX H0x cHX_0 cHX_1 cHX_2 fHX_0 fHX_1 fHX_2 cH0x_0 fH0x_0
          go_wp2_with (at_builtin; refine wpList_appS halfC_len _ rfl _ _ 74 rfl (w.heap.size + 1) i0 _ 24 Try.underlying74 hi0 hz0 hz1 hz2 rfl (by decide) rfl N4 A3 k3 rfl hA3 hn3 halfC_one hb4 hg3 hlE (by decide) ?_)
          intro v5 w5 N5 hb5
          go_wp2
          go_roundw
          case rel => exact ⟨k + 1, rfl, by omega, by go_num, by rw [hst1]; exact N5, hv2, hb5⟩
          case measure => simp [intOf]; omega
      · have hv2 := Lib.hid (hbs1.out (by simp only [hbd, decide_eq_false hb]; simp))
        clear hbs1 hby1 hbd
        go_wp2_with (fail)
        refine (cR _).mono ?_
        rintro e w3 ⟨v3, rfl, N3, hb3⟩
        obtain ⟨A3, k3, rfl, hA3⟩ := N3.sl halfC_len
        have hn3 := N3.nilcap
        have N4 := Nx.below hb3 (Nat.le_refl _)
        have hb4 : Below (w.heap.size + 1) w1 w3 := hbx.trans (hb3.mono hga)
        have hg3 : w.heap.size + 1 ≤ w3.heap.size := Nat.le_trans hga hb3.size
        clear N3 HX H0x cHX_0 cHX_1 cHX_2 fHX_0 fHX_1 fHX_2 cH0x_0 fH0x_0
        go_wp2_with (at_builtin; refine wpList_appS halfC_len _ rfl _ _ 74 rfl (w.heap.size + 1) i0 _ 24 Try.underlying74 hi0 hz0 hz1 hz2 rfl (by decide) rfl N4 A3 k3 rfl hA3 hn3 halfC_one hb4 hg3 hlE (by decide) ?_)
        intro v5 w5 N5 hb5
        go_wp2
        go_roundw
        case rel => exact ⟨k + 1, rfl, by omega, by go_num, by rw [hst1]; exact N5, hv2, hb5⟩
        case measure => simp [intOf]; omega
    · obtain rfl : k = xs.length := by omega
      have hfin := Lib.hid (hno.out hvd.out)
      rw [List.take_length] at N ⊢
      have hHn := N.nilcap
      have hSl := N.out halfC_len
      have hl5 : (fitHs xs err).length ≤ 24 := by have := hfl.out; omega
      have cM := iMeet_c Ap (fitHs xs err) cp wr (by omega) hHok.out hSl hHn
      rw [hfew.out.1, hfew.out.2] at cM
      have l0 := H0.1
      clear hvd hst hby hbs hfl hln2 hHok hSl N hno hyes hHn
      generalize fitHs xs err = E at *
      go_wp2_with (fail)
      refine cM.mono ?_
      rintro e w2 ⟨v2, rfl, N2, hb2⟩
      have H2 := H0.below hb2
      have b2 := below_tr bw hb2
      have l2 := H2.1
      obtain ⟨A2, k2, rfl, hr2⟩ := N2
      have N2 : New 177 3 halfC w2 wr.heap.size (.slice A2 (meetI (meetL E)).length k2) (meetI (meetL E)) := ⟨A2, k2, rfl, hr2⟩
      clear hr2 hb2 H0 l0
      generalize meetI (meetL E) = Z at *
      obtain ⟨cH2_0, fH2_0⟩ := H2.2 0 _ rfl
      go_wp2
      refine bodyPost_ret (v := .tuple #[.agg #[.slice A2 Z.length k2], .bool true]) (by simp [results, Try.results36, go_sem, cH2_0]) rfl ⟨_, by rw [h1.out], ?_, ?_⟩
      · rw [hfin.out]; exact (N2.set_ (by simp only; omega) _).mono (by omega)
      · exact b2.setCell (Nat.le_refl _) _
set_option maxRecDepth 100000 in
set_option maxHeartbeats 8000000 in
theorem sFit_c (A : Option Addr) (xs : List Record) (cap : Nat) (err : Int) (w : World) (hl : xs.length ≤ 1048577) (_ : In64 err) (hsl : Sl 3 recordC w A xs) :
    Calls Try.prog 57 #[.slice A xs.length cap, .int .i64 err] w fun e w' => ∃ v, e = .returned (.tuple #[.agg #[v], .bool (fitOk xs err)]) ∧ New 177 3 halfC w' w.heap.size v (fitR xs err) ∧ Below w.heap.size w w' := by
  obtain ⟨i0, hi0, hz0, hz1, hz2⟩ := info_parts (show (Try.prog.info? 177).map (fun i => (i.zero, i.size, i.bytes)) = some (some (.agg #[.int .i64 0, .int .i64 0, .int .i64 0]), 3, 24) by kernel_rfl)
  have c0 := fun W h => sRecordsOkB_c A xs cap W hl h
  have c1 := fun W => l01In_c err 0 1000 W
  have hdef := Lib.hid (show fitOk xs err = (recordsOk xs && inR err 0 1000) ∧ fitR xs err = if fitOk xs err = true ∧ fitBad xs err = false then meetI (meetL (fitHs xs err)) else [] from ⟨rfl, rfl⟩)
  have H0 : Has (w.alloc (.cells #[.slice none 0 0] 76)) w.heap.size [.slice none 0 0] := by
    repeat (first | ((with_reducible refine Has.new_at ?_ _ _ rfl); (first | rfl | (focus (simp; done)))) | (with_reducible refine Has.set_ ?_ ?_ _) | (with_reducible refine Has.alloc ?_ _) | (with_reducible refine Has.below ?_ (by assumption)) | (focus (simp; done)) | (focus (simp; omega)))
  have b0 : Below w.heap.size w (w.alloc (.cells #[.slice none 0 0] 76)) := by
    repeat (first | (with_reducible exact Below.refl _ _) | (with_reducible assumption) | (with_reducible refine below_al ?_ _) | (with_reducible refine Below.drew ?_) | (with_reducible refine below_drewN ?_ _) | (with_reducible refine below_st ?_ ?_ _) | (with_reducible refine below_tr ?_ (by assumption)) | (with_reducible exact Nat.le_refl _) | (focus (simp; done)) | (focus (simp; omega)))
  have hs0 := hsl.below b0
  cases e0 : recordsOk xs
  · rw [e0] at c0
    have h1 := Lib.hid (show fitOk xs err = false by rw [hdef.out.1, e0]; rfl)
    have h2 := Lib.hid (show fitR xs err = [] by rw [hdef.out.2, h1.out]; rfl)
    go_enter Try.func57, Try.ntmps57
    go_wp2_with (fail)
    refine (c0 _ hs0).mono ?_
    rintro e w1 ⟨rfl, hb1⟩
    have H1 := H0.below hb1
    have b1 := below_tr b0 hb1
    have l1 := H1.1
    obtain ⟨cH1_0, fH1_0⟩ := H1.2 0 _ rfl
    go_wp2
    refine bodyPost_ret (v := .tuple #[.agg #[.slice none 0 0], .bool false]) (by simp [results, Try.results57, go_sem, cH1_0]) rfl ⟨_, by rw [h1.out], ?_, ?_⟩
    · rw [h2.out]; exact ⟨none, 0, rfl, by simp, .inl ⟨rfl, rfl⟩⟩
    · exact b1.setCell (Nat.le_refl _) _
  cases e1 : inR err 0 1000
  · rw [e0] at c0
    rw [e1] at c1
    have h1 := Lib.hid (show fitOk xs err = false by rw [hdef.out.1, e0, e1]; rfl)
    have h2 := Lib.hid (show fitR xs err = [] by rw [hdef.out.2, h1.out]; rfl)
    go_enter Try.func57, Try.ntmps57
    go_wp2_with (fail)
    refine (c0 _ hs0).mono ?_
    rintro e w1 ⟨rfl, hb1⟩
    have H1 := H0.below hb1
    have b1 := below_tr b0 hb1
    have l1 := H1.1
    obtain ⟨cH1_0, fH1_0⟩ := H1.2 0 _ rfl
    go_wp2_with (fail)
    refine (c1 _).mono ?_
    rintro e w' ⟨rfl, rfl⟩
    go_wp2
    refine bodyPost_ret (v := .tuple #[.agg #[.slice none 0 0], .bool false]) (by simp [results, Try.results57, go_sem, cH1_0]) rfl ⟨_, by rw [h1.out], ?_, ?_⟩
    · rw [h2.out]; exact ⟨none, 0, rfl, by simp, .inl ⟨rfl, rfl⟩⟩
    · exact b1.setCell (Nat.le_refl _) _
  have h1 := Lib.hid (show fitOk xs err = true by rw [hdef.out.1, e0, e1]; rfl)
  have hyes := Lib.hid (fun (e : fitBad xs err = true) => show fitR xs err = [] from by rw [hdef.out.2, if_neg]; rw [e]; simp)
  have hno := Lib.hid (fun (e : (xs.take xs.length).any (fun x => badRec x err) = false) => show fitR xs err = meetI (meetL (fitHs xs err)) from by rw [hdef.out.2, if_pos ⟨h1.out, fitBad_no e⟩])
  have hfew := Lib.hid (fit_few (err := err) e0)
  have hst := Lib.hid (fun k h => @fitHs_step xs err k h)
  have hby := Lib.hid (fun k h => @fitBad_yes xs err k h)
  have hbs := Lib.hid (fun k h h1 h2 => @any_step Record (fun x => badRec x err) xs k h h1 h2)
  have hfl := Lib.hid (fitHs_len xs err)
  have hln : xs.length ≤ 12 := by simp only [recordsOk, Bool.and_eq_true, decide_eq_true_eq] at e0; exact e0.2
  have hln2 := Lib.hid (fun k => fitHs_len (xs.take k) err)
  obtain ⟨er1, er2⟩ := inR_iff.1 e1
  rw [e0] at c0
  rw [e1] at c1
  clear hdef e0 e1
  have hHok := Lib.hid (@fitHs_ok xs err)
  go_enter Try.func57, Try.ntmps57
  go_wp2_with (fail)
  refine (c0 _ hs0).mono ?_
  rintro e w1 ⟨rfl, hb1⟩
  have H1 := H0.below hb1
  have b1 := below_tr b0 hb1
  have hs1 := hs0.below hb1
  have l1 := H1.1
  clear H0 b0 hs0 hb1 c0
  go_wp2_with (fail)
  refine (c1 _).mono ?_
  rintro e w' ⟨rfl, rfl⟩
  clear c1
  have N1 : New 177 3 halfC (w1.alloc (.cells #[] 177)) (w.heap.size + 1) (.slice (some ⟨w1.heap.size, 0, none⟩) 0 0) [] :=
    ⟨_, 0, rfl, by simp, .inr ⟨w1.heap.size, 0, #[], rfl, l1, heap_alloc_new w1 _, Nat.zero_le _, Nat.zero_le _, rfl, rfl⟩⟩
  go_wp2
  go_loopw [5, 6, 8, 21] (fun v5 vo _ i wr => ∃ k : Nat, v5 = .bool false ∧ k ≤ xs.length ∧ i = .int .i64 k ∧ New 177 3 halfC wr (w.heap.size + 1) vo (fitHs (xs.take k) err) ∧ Hid ((xs.take k).any (fun x => badRec x err) = false) ∧ Below (w.heap.size + 1) w1 wr) (fun _ _ _ i _ => xs.length - (intOf i).toNat)
  case atStart => exact ⟨0, rfl, Nat.zero_le _, rfl, N1, by simp [Hid], (Below.refl _ _).alloc l1 _⟩
  case round =>
    obtain ⟨k, rfl, hk, rfl, N, hvd, hbr⟩ := hrel
    have H0 := H1.keepB hbr (Nat.lt_succ_self _)
    have bw : Below w.heap.size w wr := b1.trans (hbr.mono (Nat.le_succ _))
    have hsr : Sl 3 recordC wr A xs := hsl.below bw
    have hgr : w.heap.size + 1 ≤ wr.heap.size := H0.1
    obtain ⟨Ap, cp, rfl, hrp⟩ := N
    have N : New 177 3 halfC wr (w.heap.size + 1) (.slice Ap (fitHs (xs.take k) err).length cp) (fitHs (xs.take k) err) := ⟨Ap, cp, rfl, hrp⟩
    clear hrp
    by_cases hlt : k < xs.length
    · obtain ⟨b, off, rfl, hblt, hc⟩ := hsr.at_ hlt
      have g0 := hc 0 _ rfl
      have g1 := hc 1 _ rfl
      have g2 := hc 2 _ rfl
      simp only [Nat.add_zero] at g0
      have i1 : (k : Int) < (xs.length : Int) := by omega
      have hst1 := hst.out k hlt
      have hby1 := Lib.hid (fun e => hyes.out (hby.out k hlt e))
      have hbs1 := Lib.hid (hbs.out k hlt hvd.out)
      have hl2 := hln2.out k
      rw [List.length_take] at hl2
      have hl3 : (fitHs (xs.take k) err).length ≤ 24 := by omega
      have hl4 := recordHalves_len xs[k] err
      have cR := fun W => sRecordHalves_c xs[k] err W
      clear hc hvd hl2
      generalize hx : xs[k] = x at *
      clear hx
      generalize recordHalves x err = R at *
      generalize fitHs (xs.take k) err = E at *
      have hbd : badRec x err = (decide (x.before = 0) && decide (x.input = 0) && !inR x.after (-err) err) := rfl
      have cI := fun v h W => l01In_v x.after (-err) err v h W
      have HX := Has.new wr #[.int .i64 x.before, .int .i64 x.input, .int .i64 x.after] 95
      have Nx := N.alloc (.cells #[.int .i64 x.before, .int .i64 x.input, .int .i64 x.after] 95)
      have H0x := H0.alloc (.cells #[.int .i64 x.before, .int .i64 x.input, .int .i64 x.after] 95)
      have hbx := hbr.alloc hgr (.cells #[.int .i64 x.before, .int .i64 x.input, .int .i64 x.after] 95)
      have bwx := below_al bw (.cells #[.int .i64 x.before, .int .i64 x.input, .int .i64 x.after] 95)
      go_upto_region 7 with fail
      generalize hW : wr.alloc (.cells #[.int .i64 x.before, .int .i64 x.input, .int .i64 x.after] 95) = wa at *
      have hga : w.heap.size + 1 ≤ wa.heap.size := by rw [← hW]; simp only [World.size_alloc]; omega
      clear hW g0 g1 g2 hblt H0 N hbr bw hsr
      generalize hgx : wr.heap.size = gx at *
      clear hgx
      have lX := HX.1
      have l0 := H0x.1
      obtain ⟨cHX_0, fHX_0⟩ := HX.2 0 _ rfl
      obtain ⟨cHX_1, fHX_1⟩ := HX.2 1 _ rfl
      obtain ⟨cHX_2, fHX_2⟩ := HX.2 2 _ rfl
      obtain ⟨cH0x_0, fH0x_0⟩ := H0x.2 0 _ rfl
      have hlE : E.length + R.length ≤ 1073741824 := by omega
      by_cases hb : x.before = 0
      · by_cases hi : x.input = 0
        · cases hr : inR x.after (-err) err
          · have h3 := Lib.hid (hby1.out (by rw [hbd, decide_eq_true hb, decide_eq_true hi, hr]; rfl))
            clear hst1 hbs1 hby1 hbd
            go_wp2_with (fail)
            refine (cI _ hr _).mono ?_
            rintro e w' ⟨rfl, rfl⟩
            go_wp2
            refine bodyPost_ret (v := .tuple #[.agg #[.slice none 0 0], .bool true]) (by simp [results, Try.results57, go_sem, cH0x_0]) rfl ⟨_, by rw [h1.out], ?_, ?_⟩
            · rw [h3.out]; exact ⟨none, 0, rfl, by simp, .inl ⟨rfl, rfl⟩⟩
            · exact bwx.setCell (Nat.le_refl _) _
          · have hv2 := Lib.hid (hbs1.out (by simp only [hbd, hr]; simp))
            clear hbs1 hby1 hbd
            obtain ⟨xb, xi, xa⟩ := x
            simp only at hb hi
            subst hb hi
            simp only at hr cI cR cHX_0 cHX_1 cHX_2 hst1
            go_wp2_with (fail)
            refine (cI _ hr _).mono ?_
            rintro e w' ⟨rfl, rfl⟩
            go_wp2_with (fail)
            refine (cR _).mono ?_
            rintro e w3 ⟨v3, rfl, N3, hb3⟩
            obtain ⟨A3, k3, rfl, hA3⟩ := N3.sl halfC_len
            have hn3 := N3.nilcap
            have N4 := Nx.below hb3 (Nat.le_refl _)
            have hb4 : Below (w.heap.size + 1) w1 w3 := hbx.trans (hb3.mono hga)
            have hg3 : w.heap.size + 1 ≤ w3.heap.size := Nat.le_trans hga hb3.size
            clear N3 HX H0x cHX_0 cHX_1 cHX_2 fHX_0 fHX_1 fHX_2 cH0x_0 fH0x_0
            go_wp2_with (at_builtin; refine wpList_appS halfC_len _ rfl _ _ 74 rfl (w.heap.size + 1) i0 _ 24 Try.underlying74 hi0 hz0 hz1 hz2 rfl (by decide) rfl N4 A3 k3 rfl hA3 hn3 halfC_one hb4 hg3 hlE (by decide) ?_)
            intro v5 w5 N5 hb5
            go_wp2
            go_roundw
            case rel => exact ⟨k + 1, rfl, by omega, by go_num, by rw [hst1]; exact N5, hv2, hb5⟩
            case measure => simp [intOf]; omega
        · have hv2 := Lib.hid (hbs1.out (by simp only [hbd, decide_eq_false hi]; simp))
          clear hbs1 hby1 hbd
          obtain ⟨xb, xi, xa⟩ := x
          simp only at hb hi
          subst hb
          simp only at cI cR cHX_0 cHX_1 cHX_2 hst1
          go_wp2_with (fail)
          refine (cR _).mono ?_
          rintro e w3 ⟨v3, rfl, N3, hb3⟩
          obtain ⟨A3, k3, rfl, hA3⟩ := N3.sl halfC_len
          have hn3 := N3.nilcap
          have N4 := Nx.below hb3 (Nat.le_refl _)
          have hb4 : Below (w.heap.size + 1) w1 w3 := hbx.trans (hb3.mono hga)
          have hg3 : w.heap.size + 1 ≤ w3.heap.size := Nat.le_trans hga hb3.size
          clear N3 HX H0x cHX_0 cHX_1 cHX_2 fHX_0 fHX_1 fHX_2 cH0x_0 fH0x_0
          go_wp2_with (at_builtin; refine wpList_appS halfC_len _ rfl _ _ 74 rfl (w.heap.size + 1) i0 _ 24 Try.underlying74 hi0 hz0 hz1 hz2 rfl (by decide) rfl N4 A3 k3 rfl hA3 hn3 halfC_one hb4 hg3 hlE (by decide) ?_)
          intro v5 w5 N5 hb5
          go_wp2
          go_roundw
          case rel => exact ⟨k + 1, rfl, by omega, by go_num, by rw [hst1]; exact N5, hv2, hb5⟩
          case measure => simp [intOf]; omega
      · have hv2 := Lib.hid (hbs1.out (by simp only [hbd, decide_eq_false hb]; simp))
        clear hbs1 hby1 hbd
        go_wp2_with (fail)
        refine (cR _).mono ?_
        rintro e w3 ⟨v3, rfl, N3, hb3⟩
        obtain ⟨A3, k3, rfl, hA3⟩ := N3.sl halfC_len
        have hn3 := N3.nilcap
        have N4 := Nx.below hb3 (Nat.le_refl _)
        have hb4 : Below (w.heap.size + 1) w1 w3 := hbx.trans (hb3.mono hga)
        have hg3 : w.heap.size + 1 ≤ w3.heap.size := Nat.le_trans hga hb3.size
        clear N3 HX H0x cHX_0 cHX_1 cHX_2 fHX_0 fHX_1 fHX_2 cH0x_0 fH0x_0
        go_wp2_with (at_builtin; refine wpList_appS halfC_len _ rfl _ _ 74 rfl (w.heap.size + 1) i0 _ 24 Try.underlying74 hi0 hz0 hz1 hz2 rfl (by decide) rfl N4 A3 k3 rfl hA3 hn3 halfC_one hb4 hg3 hlE (by decide) ?_)
        intro v5 w5 N5 hb5
        go_wp2
        go_roundw
        case rel => exact ⟨k + 1, rfl, by omega, by go_num, by rw [hst1]; exact N5, hv2, hb5⟩
        case measure => simp [intOf]; omega
    · obtain rfl : k = xs.length := by omega
      have hfin := Lib.hid (hno.out hvd.out)
      rw [List.take_length] at N ⊢
      have hHn := N.nilcap
      have hSl := N.out halfC_len
      have hl5 : (fitHs xs err).length ≤ 24 := by have := hfl.out; omega
      have cM := sMake_c Ap (fitHs xs err) cp wr (by omega) hHok.out hSl hHn
      have l0 := H0.1
      clear hvd hst hby hbs hfl hln2 hHok hSl N hno hyes hHn
      generalize fitHs xs err = E at *
      go_wp2_with (fail)
      refine cM.mono ?_
      rintro e w2 ⟨v2, rfl, N2, hb2⟩
      have H2 := H0.below hb2
      have b2 := below_tr bw hb2
      have l2 := H2.1
      obtain ⟨A2, k2, rfl, hr2⟩ := N2
      have N2 : New 177 3 halfC w2 wr.heap.size (.slice A2 (meetI (meetL E)).length k2) (meetI (meetL E)) := ⟨A2, k2, rfl, hr2⟩
      clear hr2 hb2 H0 l0
      generalize meetI (meetL E) = Z at *
      obtain ⟨cH2_0, fH2_0⟩ := H2.2 0 _ rfl
      go_wp2
      refine bodyPost_ret (v := .tuple #[.agg #[.slice A2 Z.length k2], .bool true]) (by simp [results, Try.results57, go_sem, cH2_0]) rfl ⟨_, by rw [h1.out], ?_, ?_⟩
      · rw [hfin.out]; exact (N2.set_ (by simp only; omega) _).mono (by omega)
      · exact b2.setCell (Nat.le_refl _) _
end Go.Proofs.Ytbdihgcjopbnjaa
