/- The plain things of the layers, as Lean has them, and how they lie in cells. -/
import Derived.Test.YtldkjjnjdjfipaaNum
import Derived.Test.YtldkjjnjdjfipaaCt
namespace Go.Proofs.Ytldkjjnjdjfipaa
open Go Go.RowKit
set_option linter.unusedVariables false
set_option linter.unusedSimpArgs false

structure Rec where
  dead : Bool
  key : Int64
  value : Int64
  seq : Int64
  deriving DecidableEq, Inhabited

@[reducible] def recV (r : Rec) : List Value := [.bool r.dead, .int .i64 r.key.toInt, .int .i64 r.value.toInt, .int .i64 r.seq.toInt]
theorem recV_len (r : Rec) : (recV r).length = 4 := rfl
theorem recV_one (r : Rec) : (recV r).all Value.oneCell' = true := rfl

/-- One that is none. -/
def deadR : Rec := ⟨true, 0, 0, 0⟩
def ahead (a b : Rec) : Bool := !a.dead && (b.dead || decide (a.key < b.key))
def before (a b : Rec) : Bool := !a.dead && (b.dead || decide (a.key < b.key) || (decide (a.key = b.key) && decide (a.seq < b.seq)))

@[reducible] def byteV (b : UInt8) : List Value := [.int .u8 (b.toNat : Int)]
theorem byteV_len (r : UInt8) : (byteV r).length = 1 := rfl
theorem byteV_one (r : UInt8) : (byteV r).all Value.oneCell' = true := rfl
@[reducible] def intV (i : Int) : List Value := [.int .i64 i]
theorem intV_len (r : Int) : (intV r).length = 1 := rfl
theorem intV_one (r : Int) : (intV r).all Value.oneCell' = true := rfl
@[reducible] def i64V (i : Int64) : List Value := [.int .i64 i.toInt]
theorem i64V_len (r : Int64) : (i64V r).length = 1 := rfl
theorem i64V_one (r : Int64) : (i64V r).all Value.oneCell' = true := rfl
@[reducible] def u64V (i : UInt64) : List Value := [.int .u64 (i.toNat : Int)]
theorem u64V_len (r : UInt64) : (u64V r).length = 1 := rfl
theorem u64V_one (r : UInt64) : (u64V r).all Value.oneCell' = true := rfl
@[reducible] def boolV (i : Bool) : List Value := [.bool i]
theorem boolV_len (r : Bool) : (boolV r).length = 1 := rfl
theorem boolV_one (r : Bool) : (boolV r).all Value.oneCell' = true := rfl

/-! bits of tests -/
theorem b64_one (b : Bool) : (b64 b = 1) = (b = true) := by cases b <;> simp [b64]
theorem b64_and (a b : Bool) : b64 a &&& b64 b = b64 (a && b) := by cases a <;> cases b <;> decide
theorem b64_or (a b : Bool) : b64 a ||| b64 b = b64 (a || b) := by cases a <;> cases b <;> decide
theorem b64_not (a : Bool) : b64 a ^^^ 1 = b64 (!a) := by cases a <;> decide
theorem b64_and1 (a : Bool) : b64 a &&& 1 = b64 a := by cases a <;> decide
theorem ahead_bits (a b : Rec) : (b64 a.dead ^^^ 1) &&& (b64 b.dead ||| b64 (decide (a.key < b.key))) = b64 (ahead a b) := by
  rw [b64_not, b64_or, b64_and]; rfl
theorem before_bits (a b : Rec) : b64 (ahead a b) ||| (((b64 a.dead ^^^ 1) &&& (b64 b.dead ^^^ 1)) &&& (b64 (decide (a.key.toUInt64 = b.key.toUInt64)) &&& b64 (decide (a.seq < b.seq)))) = b64 (before a b) := by
  have hk : decide (a.key.toUInt64 = b.key.toUInt64) = decide (a.key = b.key) := by
    simp only [decide_eq_decide]
    exact ⟨fun h => by have := congrArg UInt64.toInt64 h; simpa using this, fun h => by rw [h]⟩
  rw [hk, b64_not, b64_not, b64_and, b64_and, b64_and, b64_or]
  congr 1
  unfold ahead before
  cases a.dead <;> cases b.dead <;> simp
theorem pick_dead (c : UInt64) (a b : Bool) : decide ((if c &&& 1 = 1 then b64 a else b64 b) = 1) = if c &&& 1 = 1 then a else b := by
  split <;> simp [b64_one]
theorem pick_i64 (c : UInt64) (x y : Int64) : (if c &&& 1 = 1 then x.toUInt64 else y.toUInt64).toInt64 = if c &&& 1 = 1 then x else y := by
  split <;> simp

/-! equality of structs -/
section
variable {P : Program}
theorem equal_basic (w : World) (t : TypeId) (k : IntKind) (a b : Int) (h : P.underlying t = some (.int k)) (d : Nat) : (Op.equalIn (d + 1) t (.int k a) (.int k b)).run P w = .ok (decide (a = b)) w := by
  rw [run_equalIn_int w d t k k a b h, beq_dec]
end
end Go.Proofs.Ytldkjjnjdjfipaa
