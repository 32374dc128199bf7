/-
  The structs of ints that the program uses, and how they lie in memory.
  Conditions: the slices hold at most 2^20 elements.
-/
import Derived.Test.YtbdihgcjopbnjaaMath
namespace Go.Proofs.Ytbdihgcjopbnjaa
open Go.RowKit

structure Ratio where
  n : Int
  d : Int
  deriving DecidableEq
def ratioC (x : Ratio) : List Value := [.int .i64 x.n, .int .i64 x.d]
abbrev ratioV (x : Ratio) : Value := .agg #[.int .i64 x.n, .int .i64 x.d]
theorem ratioC_len (x : Ratio) : (ratioC x).length = 2 := rfl
def Ratio.In (x : Ratio) : Prop := In64 x.n ∧ In64 x.d
def mkRatio (r : List Int) : Ratio := ⟨r.getD 0 0, r.getD 1 0⟩
theorem mkRatio_C {r : List Int} (h : r.length = 2) : ratioC (mkRatio r) = r.map (Value.int .i64) := by
  match r, h with
  | [a, b], _ => rfl
theorem mkRatio_In {r : List Int} (h : r.length = 2) (h2 : ∀ n ∈ r, In64 n) : (mkRatio r).In := by
  match r, h with
  | [a, b], _ => simpa [Ratio.In, mkRatio] using h2
def markRatios (k : Int) (n : Nat) : List Ratio := (List.range n).map fun (i : Nat) => ⟨k + i * 2, k + i * 2 + 1⟩

structure Spot where
  x : Int
  y : Int
  d : Int
  deriving DecidableEq
def spotC (x : Spot) : List Value := [.int .i64 x.x, .int .i64 x.y, .int .i64 x.d]
abbrev spotV (x : Spot) : Value := .agg #[.int .i64 x.x, .int .i64 x.y, .int .i64 x.d]
theorem spotC_len (x : Spot) : (spotC x).length = 3 := rfl
def Spot.In (x : Spot) : Prop := In64 x.x ∧ In64 x.y ∧ In64 x.d
def mkSpot (r : List Int) : Spot := ⟨r.getD 0 0, r.getD 1 0, r.getD 2 0⟩
theorem mkSpot_C {r : List Int} (h : r.length = 3) : spotC (mkSpot r) = r.map (Value.int .i64) := by
  match r, h with
  | [a, b, c], _ => rfl
theorem mkSpot_In {r : List Int} (h : r.length = 3) (h2 : ∀ n ∈ r, In64 n) : (mkSpot r).In := by
  match r, h with
  | [a, b, c], _ => simpa [Spot.In, mkSpot] using h2
def markSpots (k : Int) (n : Nat) : List Spot := (List.range n).map fun (i : Nat) => ⟨k + i * 3, k + i * 3 + 1, k + i * 3 + 1 + 1⟩

structure Half where
  a : Int
  b : Int
  c : Int
  deriving DecidableEq
def halfC (x : Half) : List Value := [.int .i64 x.a, .int .i64 x.b, .int .i64 x.c]
abbrev halfV (x : Half) : Value := .agg #[.int .i64 x.a, .int .i64 x.b, .int .i64 x.c]
theorem halfC_len (x : Half) : (halfC x).length = 3 := rfl
def Half.In (x : Half) : Prop := In64 x.a ∧ In64 x.b ∧ In64 x.c
def mkHalf (r : List Int) : Half := ⟨r.getD 0 0, r.getD 1 0, r.getD 2 0⟩
theorem mkHalf_C {r : List Int} (h : r.length = 3) : halfC (mkHalf r) = r.map (Value.int .i64) := by
  match r, h with
  | [a, b, c], _ => rfl
theorem mkHalf_In {r : List Int} (h : r.length = 3) (h2 : ∀ n ∈ r, In64 n) : (mkHalf r).In := by
  match r, h with
  | [a, b, c], _ => simpa [Half.In, mkHalf] using h2
def markHalfs (k : Int) (n : Nat) : List Half := (List.range n).map fun (i : Nat) => ⟨k + i * 3, k + i * 3 + 1, k + i * 3 + 1 + 1⟩

structure Piece where
  a : Int
  b : Int
  c : Int
  d : Int
  deriving DecidableEq
def pieceC (x : Piece) : List Value := [.int .i64 x.a, .int .i64 x.b, .int .i64 x.c, .int .i64 x.d]
abbrev pieceV (x : Piece) : Value := .agg #[.int .i64 x.a, .int .i64 x.b, .int .i64 x.c, .int .i64 x.d]
theorem pieceC_len (x : Piece) : (pieceC x).length = 4 := rfl
def Piece.In (x : Piece) : Prop := In64 x.a ∧ In64 x.b ∧ In64 x.c ∧ In64 x.d
def mkPiece (r : List Int) : Piece := ⟨r.getD 0 0, r.getD 1 0, r.getD 2 0, r.getD 3 0⟩
theorem mkPiece_C {r : List Int} (h : r.length = 4) : pieceC (mkPiece r) = r.map (Value.int .i64) := by
  match r, h with
  | [a, b, c, d], _ => rfl
theorem mkPiece_In {r : List Int} (h : r.length = 4) (h2 : ∀ n ∈ r, In64 n) : (mkPiece r).In := by
  match r, h with
  | [a, b, c, d], _ => simpa [Piece.In, mkPiece] using h2
def markPieces (k : Int) (n : Nat) : List Piece := (List.range n).map fun (i : Nat) => ⟨k + i * 4, k + i * 4 + 1, k + i * 4 + 1 + 1, k + i * 4 + 1 + 1 + 1⟩

structure Mode where
  low : Int
  high : Int
  deriving DecidableEq
def modeC (x : Mode) : List Value := [.int .i64 x.low, .int .i64 x.high]
abbrev modeV (x : Mode) : Value := .agg #[.int .i64 x.low, .int .i64 x.high]
theorem modeC_len (x : Mode) : (modeC x).length = 2 := rfl
def Mode.In (x : Mode) : Prop := In64 x.low ∧ In64 x.high
def mkMode (r : List Int) : Mode := ⟨r.getD 0 0, r.getD 1 0⟩
theorem mkMode_C {r : List Int} (h : r.length = 2) : modeC (mkMode r) = r.map (Value.int .i64) := by
  match r, h with
  | [a, b], _ => rfl
theorem mkMode_In {r : List Int} (h : r.length = 2) (h2 : ∀ n ∈ r, In64 n) : (mkMode r).In := by
  match r, h with
  | [a, b], _ => simpa [Mode.In, mkMode] using h2
def markModes (k : Int) (n : Nat) : List Mode := (List.range n).map fun (i : Nat) => ⟨k + i * 2, k + i * 2 + 1⟩

structure Record where
  before : Int
  input : Int
  after : Int
  deriving DecidableEq
def recordC (x : Record) : List Value := [.int .i64 x.before, .int .i64 x.input, .int .i64 x.after]
abbrev recordV (x : Record) : Value := .agg #[.int .i64 x.before, .int .i64 x.input, .int .i64 x.after]
theorem recordC_len (x : Record) : (recordC x).length = 3 := rfl
def Record.In (x : Record) : Prop := In64 x.before ∧ In64 x.input ∧ In64 x.after
def mkRecord (r : List Int) : Record := ⟨r.getD 0 0, r.getD 1 0, r.getD 2 0⟩
theorem mkRecord_C {r : List Int} (h : r.length = 3) : recordC (mkRecord r) = r.map (Value.int .i64) := by
  match r, h with
  | [a, b, c], _ => rfl
theorem mkRecord_In {r : List Int} (h : r.length = 3) (h2 : ∀ n ∈ r, In64 n) : (mkRecord r).In := by
  match r, h with
  | [a, b, c], _ => simpa [Record.In, mkRecord] using h2
def markRecords (k : Int) (n : Nat) : List Record := (List.range n).map fun (i : Nat) => ⟨k + i * 3, k + i * 3 + 1, k + i * 3 + 1 + 1⟩
end Go.Proofs.Ytbdihgcjopbnjaa
