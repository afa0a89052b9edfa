/- P19: letters under way. Plain, but for what can be read of their bytes. -/
import Derived.Test.YtldkjjnjdjfipaaRdr
import Derived.Test.YtldkjjnjdjfipaaData
namespace Go.Proofs.Ytldkjjnjdjfipaa
open Go Go.RowKit
set_option linter.unusedVariables false
set_option linter.unusedSimpArgs false
structure Let where
  to : Int
  a : Option Addr
  n : Nat
  c : Nat
  d : List UInt8
instance : Inhabited Let := ⟨⟨0, none, 0, 0, []⟩⟩
@[reducible] def letV (x : Let) : List Value := [.int .i64 x.to, .slice x.a x.n x.c]
theorem letV_len (x : Let) : (letV x).length = 2 := rfl
theorem letV_one (x : Let) : (letV x).all Value.oneCell' = true := rfl
def zLet : Let := ⟨0, none, 0, 0, []⟩
/-- without the one of place i -/
def cutL (l : List Let) (i : Nat) : List Let := l.take i ++ l.drop (i + 1)
theorem cutL_len {l : List Let} {i : Nat} (h : i < l.length) : (cutL l i).length = l.length - 1 := by
  unfold cutL
  rw [List.length_append, List.length_take, List.length_drop]
  omega
/-- what Delete leaves: over the place, and the last one cleared -/
theorem del_take {l : List Let} {i : Nat} (h : i < l.length) : ((l.take i ++ l.drop (i + 1) ++ l.drop (i + (l.length - (i + 1)))).set (l.length - 1) zLet).take (l.length - 1) = cutL l i := by
  have h2 : (l.take i ++ l.drop (i + 1)).length = l.length - 1 := cutL_len h
  rw [List.take_set_of_le (by omega), List.take_append_of_le_length (by omega), List.take_of_length_le (by omega)]
  rfl
end Go.Proofs.Ytldkjjnjdjfipaa
