/- P17e: runs of one shape have the same tasks. Plain. -/
import Derived.Test.YtldkjjnjdjfipaaP17b
import Derived.Test.YtldkjjnjdjfipaaEq
namespace Go.Proofs.Ytldkjjnjdjfipaa
open Go Go.RowKit
set_option linter.unusedVariables false
set_option linter.unusedSimpArgs false
set_option maxRecDepth 10000

theorem cb_bd {b c : Int} (h0 : 1 ≤ b) (h1 : b ≤ 8) (h2 : 1 ≤ c) (h3 : c ≤ 64) : 1 ≤ c * b ∧ c * b ≤ 512 := by
  have h4 : 0 < c * b := Int.mul_pos (by omega) (by omega)
  have h5 : c * b ≤ c * 8 := Int.mul_le_mul_of_nonneg_left h1 (by omega)
  omega
theorem cdv_cb {c b : Int} (hc : 1 ≤ c) (hb : 1 ≤ b) : cdv (c * b) b = c := by
  unfold cdv
  have e : c * b - 1 = (b - 1) + (c - 1) * b := by rw [Int.sub_mul]; omega
  rw [e, Int.add_mul_ediv_right _ _ (by omega), Int.ediv_eq_zero_of_lt (by omega) (by omega)]
  omega
theorem cnt_0 {p : Par} (h : ok p = false) : cnt p = 0 := by
  have := cnt_eq p
  rw [ofP_no h] at this
  have h2 : ((cnt p : Nat) : Int) = 0 := this.symm
  omega
theorem tasks_len (p : Par) : (tasksL p).length = cnt p := by simp [tasksL]
theorem same_all {p q : Par} (hp : ok p = true) (hq : ok q = true) (h : cdv q.n0 q.n2 = cdv p.n0 p.n2) (h1 : q.n1 = p.n1) : bk q = bk p ∧ sl q = sl p ∧ rh q = rh p ∧ ofP q = ofP p := by
  have e1 : bk q = bk p := by rw [bk_yes hp, bk_yes hq, h]
  have e2 : sl q = sl p := by rw [sl_yes hp, sl_yes hq, h, h1]
  have e3 : rh q = rh p := by unfold rh; rw [e2]
  exact ⟨e1, e2, e3, by rw [ofP_yes hp, ofP_yes hq, e1, e2, e3, h1]⟩
theorem same_cnt {p q : Par} (hp : ok p = true) (hq : ok q = true) (h : cdv q.n0 q.n2 = cdv p.n0 p.n2) (h1 : q.n1 = p.n1) : cnt q = cnt p := by
  obtain ⟨e1, e2, e3, e4⟩ := same_all hp hq h h1
  have a := cnt_eq p
  have b := cnt_eq q
  rw [e4, a] at b
  omega
theorem same_tasks {p q : Par} (hp : ok p = true) (hq : ok q = true) (h : cdv q.n0 q.n2 = cdv p.n0 p.n2) (h1 : q.n1 = p.n1) : tasksL q = tasksL p := by
  obtain ⟨e1, e2, e3, e4⟩ := same_all hp hq h h1
  unfold tasksL
  rw [same_cnt hp hq h h1]
  refine map_eq fun i _ => ?_
  unfold tkN tkAt
  rw [e1, e2, e4]
theorem equalT (w : World) (a b : Task) : (Op.equal 120 (.agg #[.int .i64 a.t0, .int .i64 a.t1, .int .i64 a.t2, .int .i64 a.t3, .bool a.t4]) (.agg #[.int .i64 b.t0, .int .i64 b.t1, .int .i64 b.t2, .int .i64 b.t3, .bool b.t4])).run Try.prog w = .ok (decide (a = b)) w := by
  have e : decide (a = b) = (decide (a.t0 = b.t0) && (decide (a.t1 = b.t1) && (decide (a.t2 = b.t2) && (decide (a.t3 = b.t3) && (a.t4 == b.t4))))) := by
    rw [Bool.eq_iff_iff]
    cases a; cases b
    simp
  rw [e]
  simp [go_sem, Op.equal, Op.maxDepth]
  by_cases h0 : a.t0 = b.t0 <;> by_cases h1 : a.t1 = b.t1 <;> by_cases h2 : a.t2 = b.t2 <;> by_cases h3 : a.t3 = b.t3 <;> by_cases h4 : a.t4 = b.t4 <;> simp [h0, h1, h2, h3, h4]
end Go.Proofs.Ytldkjjnjdjfipaa
