/- What an argument of a row is, when it is a spot. -/
import Derived.Test.YtldkjjnjdjfipaaRowP
namespace Go.Proofs.Ytldkjjnjdjfipaa
open Go Go.RowKit Go.ChangeShapes Go.WideShapes Go.ChangeAt
set_option linter.unusedVariables false
set_option linter.unusedSimpArgs false
set_option maxRecDepth 10000
theorem cells144 : Try.prog.cellsOf 144 = 3 := by kernel_rfl
theorem opn_spot : Opn Try.prog spotV 144 := fun enc w base spare held fuel cs x h => by
  obtain ⟨xs, n, -, -, hlen, hxl, hf⟩ := DataW.trod_struct Try.underlying144 h
  rw [cells144] at hlen
  match cs, hlen with
  | [c0, c1, c2], _ =>
    match xs, hxl with
    | [y0, y1, y2], _ =>
      obtain ⟨r0, e0⟩ := opn_i64 Try.underlying3 enc w base spare held n _ _ (hf 0 _ rfl)
      obtain ⟨r1, e1⟩ := opn_i64 Try.underlying3 enc w base spare held n _ _ (hf 1 _ rfl)
      obtain ⟨r2, e2⟩ := opn_i64 Try.underlying3 enc w base spare held n _ _ (hf 2 _ rfl)
      simp [cells3] at e0 e1 e2
      subst e0 e1 e2
      exact ⟨⟨r0.toInt, r1.toInt, r2.toInt⟩, rfl⟩
end Go.Proofs.Ytldkjjnjdjfipaa
