/- What an argument of a row is, when it is a run's parameters. -/
import Derived.Test.YtldkjjnjdjfipaaRow
import Derived.Test.YtldkjjnjdjfipaaP17
namespace Go.Proofs.Ytldkjjnjdjfipaa
open Go Go.RowKit Go.ChangeShapes Go.WideShapes Go.ChangeAt
set_option linter.unusedVariables false
set_option linter.unusedSimpArgs false
set_option maxRecDepth 10000
theorem cells3 : Try.prog.cellsOf 3 = 1 := by kernel_rfl
theorem cells53 : Try.prog.cellsOf 53 = 4 := by kernel_rfl
theorem opn_par : Opn Try.prog parV 53 := fun enc w base spare held fuel cs x h => by
  obtain ⟨xs, n, -, -, hlen, hxl, hf⟩ := DataW.trod_struct Try.underlying53 h
  rw [cells53] at hlen
  match cs, hlen with
  | [c0, c1, c2, c3], _ =>
    match xs, hxl with
    | [y0, y1, y2, y3], _ =>
      obtain ⟨r0, e0⟩ := opn_i64 Try.underlying3 enc w base spare held n _ _ (hf 0 _ rfl)
      obtain ⟨r1, e1⟩ := opn_i64 Try.underlying3 enc w base spare held n _ _ (hf 1 _ rfl)
      obtain ⟨r2, e2⟩ := opn_i64 Try.underlying3 enc w base spare held n _ _ (hf 2 _ rfl)
      obtain ⟨r3, e3⟩ := opn_i64 Try.underlying3 enc w base spare held n _ _ (hf 3 _ rfl)
      simp [cells3] at e0 e1 e2 e3
      subst e0 e1 e2 e3
      exact ⟨⟨r0.toInt, r1.toInt, r2.toInt, r3.toInt⟩, rfl⟩
end Go.Proofs.Ytldkjjnjdjfipaa
