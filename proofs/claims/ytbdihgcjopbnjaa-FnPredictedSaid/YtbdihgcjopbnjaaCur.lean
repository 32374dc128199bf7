/-
  The drawing of numbers from bytes, of the reference's verifier: what is drawn lies in its bounds, and only the cursor changes.
  Conditions: at most 2^20 bytes.
-/
import Derived.Test.YtbdihgcjopbnjaaOpenB
import Derived.Test.YtbdihgcjopbnjaaGrP
import Derived.Test.YtbdihgcjopbnjaaNewR
import Derived.Test.YtbdihgcjopbnjaaCnr
namespace Go.Proofs.Ytbdihgcjopbnjaa
open Go.RowKit

theorem i64_and255 (n : Int) : bits .and .i64 n 255 = n % 256 := by
  have h255 : (BitVec.ofInt 64 255).toNat = 2 ^ 8 - 1 := by decide
  have key : (BitVec.ofInt 64 n &&& BitVec.ofInt 64 255).toNat = (n % ((2 ^ 64 : Nat) : Int)).toNat % 2 ^ 8 := by
    rw [BitVec.toNat_and, BitVec.toNat_ofInt, h255, Nat.and_two_pow_sub_one_eq_mod]
  show IntKind.i64.wrap ((BitVec.ofInt 64 n &&& BitVec.ofInt 64 255).toNat : Nat) = n % 256
  rw [key, IntKind.wrap_i64]
  omega
/-- The cursor: which bytes, how far, the number that is carried on. -/
def Cur (w : World) (g : Nat) (B : Option Addr) (n c : Nat) : Prop := ∃ i h : Int, 0 ≤ i ∧ i ≤ (n : Int) ∧ HasT w g 199 [.slice B n c, .int .i64 i, .int .i64 h]
abbrev OnlyG (w w' : World) (g : Nat) : Prop := OnlyL w w' [⟨some ⟨g, 0, none⟩, 0⟩]
theorem OnlyG.ne {w w' : World} {g k : Nat} (h : OnlyG w w' g) (hk : k < w.heap.size) (hn : g ≠ k) : w'.heap[k]? = w.heap[k]? := h.block k hk (fun a ha p hp => by
  rw [List.mem_singleton] at ha
  subst ha
  cases hp
  exact hn)
theorem OnlyG.set_ {w : World} {g : Nat} (j : Nat) (u : Value) : OnlyG w (w.setCell ⟨g, j, none⟩ u) g := OnlyL.setCells [u] j w (OnlyL.refl _ _)
theorem HasT.far {w w' : World} {g k T : Nat} {vs : List Value} (h : HasT w k T vs) (ho : OnlyG w w' g) (hn : g ≠ k) : HasT w' k T vs := (ho.ne (lt_of_heap h) hn).trans h
theorem Sl.farG {α : Type} {sz : Nat} {enc : α → List Value} {w w' : World} {A : Option Addr} {xs : List α} {g : Nat} (h : Sl sz enc w A xs) (ho : OnlyG w w' g) (ha : ∀ b off, A = some ⟨b, off, none⟩ → 0 < xs.length → b ≠ g) : Sl sz enc w' A xs := by
  intro hn
  obtain ⟨b, off, rfl, hlt, hc⟩ := h hn
  refine ⟨b, off, rfl, Nat.lt_of_lt_of_le hlt ho.size, fun i hi j u hu => ?_⟩
  exact (World.cell?_of_block (w := w) (a := ⟨b, off + i * sz + j, none⟩) (ho.ne hlt (fun e => ha b off rfl hn e.symm))).trans (hc i hi j u hu)
theorem OnlyG.belowB {w w' : World} {g B : Nat} (h : OnlyG w w' g) (hB : B ≤ w.heap.size) (hg : B ≤ g) : Below B w w' := h.below hB (fun x hx p hp => by
  rw [List.mem_singleton] at hx
  subst hx
  cases hp
  exact hg)
theorem OnlyG.drewN {w w' : World} {g : Nat} (h : OnlyG w w' g) (n : Nat) : OnlyG w (w'.drewN n) g := h.trans (OnlyL.of_below (below_drewN (Below.refl _ _) n) _)
theorem quiet_and {x : Int} : 0 ≤ x % 256 ∧ x % 256 ≤ 255 := by omega
set_option maxRecDepth 100000 in
set_option maxHeartbeats 4000000 in
theorem curByte_c (bs : List Int) (B : Option Addr) (c g : Nat) (w : World) (hn : bs.length ≤ 1048576) (hin : ∀ y ∈ bs, InB y) (hs : Sl 1 byteC w B bs) (hc : Cur w g B bs.length c) (hap : ∀ b off, B = some ⟨b, off, none⟩ → 0 < bs.length → b ≠ g) :
    Calls Try.prog 126 #[.pointer (some ⟨g, 0, none⟩)] w fun e w' => ∃ x : Int, e = .returned (.int .i64 x) ∧ (0 ≤ x ∧ x ≤ 255) ∧ Cur w' g B bs.length c ∧ OnlyG w w' g := by
  obtain ⟨i, h, i0, i1, HT⟩ := hc
  have HH := HT.has
  obtain ⟨cHH_0, fHH_0⟩ := HH.2 0 _ rfl
  obtain ⟨cHH_1, fHH_1⟩ := HH.2 1 _ rfl
  obtain ⟨cHH_2, fHH_2⟩ := HH.2 2 _ rfl
  have lg := HH.1
  go_enter Try.func126, Try.ntmps126
  go_upto_region 2 with fail
  generalize wrap64 (wrap64 (h * 6364136223846793005) + 1442695040888963407) = h2
  have T1 : HasT (w.setCell ⟨g, 2, none⟩ (.int .i64 h2)) g 199 [.slice B bs.length c, .int .i64 i, .int .i64 h2] := HT.set_ 2 _
  have O1 : OnlyG w (w.setCell ⟨g, 2, none⟩ (.int .i64 h2)) g := OnlyG.set_ 2 _
  have S1 := hs.farG O1 hap
  clear HH cHH_0 cHH_1 cHH_2 fHH_0 fHH_1 fHH_2 lg HT hs
  generalize w.setCell ⟨g, 2, none⟩ (.int .i64 h2) = w1 at *
  have H1 := T1.has
  obtain ⟨cH1_0, fH1_0⟩ := H1.2 0 _ rfl
  obtain ⟨cH1_1, fH1_1⟩ := H1.2 1 _ rfl
  obtain ⟨cH1_2, fH1_2⟩ := H1.2 2 _ rfl
  have lg := H1.1
  by_cases hlt : i < (bs.length : Int)
  · obtain ⟨k, rfl⟩ := Int.eq_ofNat_of_zero_le i0
    have hk : k < bs.length := by omega
    obtain ⟨b, off, hB, hblt, hcell⟩ := S1.at_ hk
    have g0 := hcell 0 _ rfl
    have ib := hin _ (List.getElem_mem hk)
    have hne := hap b off hB (by omega)
    subst hB
    simp only [Nat.mul_one, Nat.add_zero] at g0
    clear hcell
    generalize bs[k] = y at *
    obtain ⟨y0, y1⟩ := ib
    go_big_quiet (fail)
    go_upto_region 3 with fail
    rw [i64_and255]
    obtain ⟨z0, z1⟩ := @quiet_and (bits BinOp.xor IntKind.i64 (h2 / 8589934592) (h2 / 35184372088832))
    generalize (bits BinOp.xor IntKind.i64 (h2 / 8589934592) (h2 / 35184372088832)) % 256 = z at *
    clear z0 z1
    go_big_quiet (fail)
    go_upto_region 4 with fail
    go_big_quiet (fail)
    go_upto_region 5 with fail
    rw [i64_and255]
    obtain ⟨z0, z1⟩ := @quiet_and (wrap64 (z + y))
    generalize wrap64 (z + y) % 256 = x at *
    go_wp2
    go_ret
    refine ⟨x, rfl, ⟨z0, z1⟩, ⟨(k : Int) + 1, h2, by omega, by omega, HasT.set_ (vs := [.slice (some ⟨b, off, none⟩) bs.length c, .int .i64 (k : Int), .int .i64 h2]) ?_ 1 _⟩, O1.trans ?_⟩
    · exact T1
    · exact (OnlyG.drewN (g := g) (OnlyL.refl w1 _) _).trans (OnlyG.set_ 1 _)
  · go_big_quiet (fail)
    go_upto_region 3 with fail
    rw [i64_and255]
    obtain ⟨z0, z1⟩ := @quiet_and (bits BinOp.xor IntKind.i64 (h2 / 8589934592) (h2 / 35184372088832))
    generalize (bits BinOp.xor IntKind.i64 (h2 / 8589934592) (h2 / 35184372088832)) % 256 = z at *
    go_big_quiet (fail)
    go_wp2
    go_ret
    refine ⟨z, rfl, ⟨z0, z1⟩, ⟨i, h2, i0, i1, T1⟩, O1.trans ?_⟩
    exact OnlyG.drewN (g := g) (OnlyL.refl w1 _) _
set_option maxHeartbeats 1000000 in
theorem curBelow_c (bs : List Int) (B : Option Addr) (c g : Nat) (m : Int) (w : World) (h1 : 1 ≤ m) (h2 : m ≤ 256) (hn : bs.length ≤ 1048576) (hin : ∀ y ∈ bs, InB y) (hs : Sl 1 byteC w B bs) (hc : Cur w g B bs.length c) (hap : ∀ b off, B = some ⟨b, off, none⟩ → 0 < bs.length → b ≠ g) :
    Calls Try.prog 109 #[.pointer (some ⟨g, 0, none⟩), .int .i64 m] w fun e w' => ∃ x : Int, e = .returned (.int .i64 x) ∧ (0 ≤ x ∧ x < m) ∧ Cur w' g B bs.length c ∧ OnlyG w w' g := by
  have k1 := curByte_c bs B c g w hn hin hs hc hap
  have d0 : ((m : Int) == 0) = false := by simp; omega
  have d1 : ((m : Int) != 0) = true := by simp; omega
  have d2 : ((m : Int) == -1) = false := by simp; omega
  clear hin hs hc hap
  go_enter Try.func109, Try.ntmps109
  go_wp2_with (fail)
  refine k1.mono ?_
  rintro e w1 ⟨x, rfl, ⟨x0, x1⟩, C1, O1⟩
  go_wp2
  go_ret
  exact ⟨x % m, rfl, ⟨Int.emod_nonneg _ (by omega), Int.emod_lt_of_pos _ (by omega)⟩, C1, O1⟩
set_option maxRecDepth 100000 in
set_option maxHeartbeats 2000000 in
theorem curNew_c (bs : List Int) (B : Option Addr) (c : Nat) (w : World) (hn : bs.length ≤ 1048576) (hin : ∀ y ∈ bs, InB y) (hs : Sl 1 byteC w B bs) :
    Calls Try.prog 108 #[.slice B bs.length c] w fun e w' => ∃ g : Nat, e = .returned (.pointer (some ⟨g, 0, none⟩)) ∧ w.heap.size ≤ g ∧ Cur w' g B bs.length c ∧ Below w.heap.size w w' := by
  go_enter Try.func108, Try.ntmps108
  go_wp2
  go_loopw [3, 4] (fun hv i wr => ∃ k : Nat, ∃ h : Int, k ≤ bs.length ∧ i = .int .i64 k ∧ hv = .int .i64 h ∧ Below w.heap.size w wr) (fun _ i _ => bs.length - (intOf i).toNat)
  case atStart => exact ⟨0, _, Nat.zero_le _, rfl, rfl, Below.refl _ _⟩
  case round =>
    obtain ⟨k, h, hk, rfl, rfl, hbw⟩ := hrel
    by_cases hlt : k < bs.length
    · by_cases h4 : (k : Int) < 4000
      · obtain ⟨b, off, rfl, hblt, hc⟩ := (hs.below hbw).at_ hlt
        have g0 := hc 0 _ rfl
        simp only [Nat.add_zero, Nat.mul_one] at g0
        obtain ⟨y0, y1⟩ := hin _ (List.getElem_mem hlt)
        clear hc
        generalize bs[k] = y at *
        go_wp2
        go_roundw
        case rel => exact ⟨k + 1, _, by omega, by go_num, rfl, hbw⟩
        case measure => simp [intOf]; omega
      · go_wp2
        go_ret
        refine ⟨_, rfl, hbw.size, ⟨0, _, Int.le_refl _, by omega, HasT.new wr [.slice B bs.length c, .int .i64 0, .int .i64 h] 199⟩, below_al hbw _⟩
    · go_wp2
      go_ret
      refine ⟨_, rfl, hbw.size, ⟨0, _, Int.le_refl _, by omega, HasT.new wr [.slice B bs.length c, .int .i64 0, .int .i64 h] 199⟩, below_al hbw _⟩
set_option maxRecDepth 100000 in
set_option maxHeartbeats 2000000 in
theorem cur26_c (bs : List Int) (B : Option Addr) (c : Nat) (n : Int) (w : World) (h0 : 0 ≤ n) (h1 : n ≤ 1000) (hn : bs.length ≤ 1048576) (hin : ∀ y ∈ bs, InB y) (hs : Sl 1 byteC w B bs) :
    Calls Try.prog 121 #[.slice B bs.length c, .int .i64 n] w fun e w' => ∃ g : Nat, e = .returned (.pointer (some ⟨g, 0, none⟩)) ∧ w.heap.size ≤ g ∧ Cur w' g B bs.length c ∧ Below w.heap.size w w' := by
  have k1 := curNew_c bs B c w hn hin hs
  go_enter Try.func121, Try.ntmps121
  go_wp2_with (fail)
  refine k1.mono ?_
  rintro e w1 ⟨g, rfl, hg, C1, hb1⟩
  have hap : ∀ b off, B = some ⟨b, off, none⟩ → 0 < bs.length → b ≠ g := fun b off e hp => by have := hs.blt hp b off e; omega
  go_wp2
  go_loopw [6] (fun i wr => ∃ k : Int, 0 ≤ k ∧ k ≤ n ∧ i = .int .i64 k ∧ Cur wr g B bs.length c ∧ Below w.heap.size w wr) (fun i _ => (n - intOf i).toNat)
  case atStart => exact ⟨0, Int.le_refl _, h0, rfl, C1, hb1⟩
  case round =>
    obtain ⟨k, k0, hk, rfl, C, hbw⟩ := hrel
    by_cases hlt : k < n
    · have k2 := curByte_c bs B c g wr hn hin (hs.below hbw) C hap
      obtain ⟨i, h, _, _, T⟩ := C
      have lg := lt_of_heap T
      clear T
      go_wp2_with (fail)
      refine k2.mono ?_
      rintro e w2 ⟨x, rfl, _, C2, O2⟩
      have hb2 := hbw.trans (O2.belowB hbw.size hg)
      go_wp2
      go_roundw
      case rel => exact ⟨k + 1, by omega, by omega, by go_num, C2, hb2⟩
      case measure => simp [intOf]; omega
    · go_wp2
      go_ret
      exact ⟨g, rfl, hg, C, hbw⟩
set_option maxRecDepth 100000 in
set_option maxHeartbeats 2000000 in
theorem makeWhole_c (bs : List Int) (B : Option Addr) (c : Nat) (n : Int) (w : World) (h0 : 0 ≤ n) (h1 : n ≤ 1000) (hn : bs.length ≤ 1048576) (hin : ∀ y ∈ bs, InB y) (hs : Sl 1 byteC w B bs) :
    Calls Try.prog 43 #[.slice B bs.length c, .int .i64 n] w fun e w' => ∃ x y : Int, e = .returned (spotV ⟨x, y, 1⟩) ∧ (-40 ≤ x ∧ x ≤ 39) ∧ (-40 ≤ y ∧ y ≤ 39) ∧ Below w.heap.size w w' := by
  have T0 : HasT (w.alloc (.cells #[.int .i64 0, .int .i64 0, .int .i64 0] 65)) w.heap.size 65 [.int .i64 0, .int .i64 0, .int .i64 0] := HasT.new w [.int .i64 0, .int .i64 0, .int .i64 0] 65
  have b0 : Below w.heap.size w (w.alloc (.cells #[.int .i64 0, .int .i64 0, .int .i64 0] 65)) := below_al (Below.refl _ _) _
  have k1 := cur26_c bs B c n _ h0 h1 hn hin (hs.below b0)
  go_enter Try.func43, Try.ntmps43
  go_wp2_with (fail)
  refine k1.mono ?_
  rintro e w1 ⟨g, rfl, hg, C1, hb1⟩
  have T1 := T0.below hb1
  have b1 := below_tr b0 hb1
  simp only [World.size_alloc] at hg
  clear T0 b0 k1 hb1
  have hap : ∀ b off, B = some ⟨b, off, none⟩ → 0 < bs.length → b ≠ g := fun b off e hp => by have := hs.blt hp b off e; omega
  go_wp2_with (fail)
  refine (curBelow_c bs B c g 80 _ (by decide) (by decide) hn hin (hs.below b1) C1 hap).mono ?_
  rintro e w2 ⟨x, rfl, ⟨x0, x1⟩, C2, O2⟩
  have T2 := T1.far O2 (by omega)
  have b2 := b1.trans (O2.belowB b1.size (by omega))
  go_wp2_with (fail)
  refine (curBelow_c bs B c g 80 _ (by decide) (by decide) hn hin (hs.below b2) C2 hap).mono ?_
  rintro e w3 ⟨y, rfl, ⟨y0, y1⟩, C3, O3⟩
  have T3 := T2.far O3 (by omega)
  have b3 := b2.trans (O3.belowB b2.size (by omega))
  have H3 := T3.has
  obtain ⟨cH3_0, fH3_0⟩ := H3.2 0 _ rfl
  obtain ⟨cH3_1, fH3_1⟩ := H3.2 1 _ rfl
  obtain ⟨cH3_2, fH3_2⟩ := H3.2 2 _ rfl
  have l3 := H3.1
  go_wp2
  refine bodyPost_ret (v := spotV ⟨x - 40, y - 40, 1⟩) (by simp [results, Try.results43, go_sem, *]) rfl ⟨_, _, rfl, ⟨by omega, by omega⟩, ⟨by omega, by omega⟩, ?_⟩
  exact below_cells3 b3 (by omega)
end Go.Proofs.Ytbdihgcjopbnjaa
