/- Ptr: pointers held against nil. It states nothing of the program. -/
import Derived.Test.YtldkjjnjdjfipaaSlc
namespace Go.Proofs.Ytldkjjnjdjfipaa
open Go Go.RowKit
set_option linter.unusedVariables false
set_option linter.unusedSimpArgs false
section
variable {P : Program} {w0 : World} {D : List Nat} {σ : Fr} {L : List Res}
theorem run_equalIn_ptr (w : World) (d : Nat) (t : TypeId) (p : Option Addr) {e : TypeId} (h : P.underlying t = some (.pointer e)) : (Op.equalIn (d + 1) t (.pointer p) (.pointer none)).run P w = .ok p.isNone w := by
  cases p <;> simp [Op.equalIn, run_underlying h]
theorem run_equal_ptr (w : World) (t : TypeId) (p : Option Addr) {e : TypeId} (h : P.underlying t = some (.pointer e)) : (Op.equal t (.pointer p) (.pointer none)).run P w = .ok p.isNone w := run_equalIn_ptr w 9999 t p h
theorem y_ptrEq {t t2 : TypeId} {x y : Operand} {e : TypeId} {p : Option Addr} {c : Bool} (hx : ev σ x = .pointer p) (hy : ev σ y = .pointer none) (ht : P.underlying t = some (.pointer e)) (hg : P.eqGuardType P.depth t = false) (hc : p.isNone = c) : OpR P w0 D σ L (.binOp .eql t x y t2) (.bool c) :=
  .mk (by simp) fun d ty pos af g w _ => by subst hc; simp [execOp, hx, hy, eqGuard, binOp, run_equal_ptr w t p ht, hg]
theorem y_ptrNe {t t2 : TypeId} {x y : Operand} {e : TypeId} {p : Option Addr} {c : Bool} (hx : ev σ x = .pointer p) (hy : ev σ y = .pointer none) (ht : P.underlying t = some (.pointer e)) (hg : P.eqGuardType P.depth t = false) (hc : (!p.isNone) = c) : OpR P w0 D σ L (.binOp .neq t x y t2) (.bool c) :=
  .mk (by simp) fun d ty pos af g w _ => by subst hc; simp [execOp, hx, hy, eqGuard, binOp, run_equal_ptr w t p ht, hg]
end
end Go.Proofs.Ytldkjjnjdjfipaa
