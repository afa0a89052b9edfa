/- Structs held against each other. -/
import Derived.Test.YtldkjjnjdjfipaaData
import Derived.Test.YtldkjjnjdjfipaaRows
namespace Go.Proofs.Ytldkjjnjdjfipaa
open Go Go.RowKit
set_option linter.unusedVariables false
set_option linter.unusedSimpArgs false

theorem equalR (w : World) (a b : Rec) : (Op.equal 23 (.agg #[.bool a.dead, .int .i64 a.key.toInt, .int .i64 a.value.toInt, .int .i64 a.seq.toInt]) (.agg #[.bool b.dead, .int .i64 b.key.toInt, .int .i64 b.value.toInt, .int .i64 b.seq.toInt])).run Try.prog w = .ok (decide (a = b)) w := by
  have e : decide (a = b) = (a.dead == b.dead && (decide (a.key = b.key) && (decide (a.value = b.value) && decide (a.seq = b.seq)))) := by
    rw [Bool.eq_iff_iff]
    cases a; cases b
    simp
  rw [e]
  simp [go_sem, Op.equal, Op.maxDepth, Int64.toInt_inj]
  by_cases h1 : a.dead = b.dead <;> by_cases h2 : a.key = b.key <;> by_cases h3 : a.value = b.value <;> by_cases h4 : a.seq = b.seq <;> simp [h1, h2, h3, h4]
end Go.Proofs.Ytldkjjnjdjfipaa
