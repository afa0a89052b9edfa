/- Plain laws of the records' order. -/
import Derived.Test.YtldkjjnjdjfipaaData
namespace Go.Proofs.Ytldkjjnjdjfipaa
open Go Go.RowKit
set_option linter.unusedVariables false
set_option linter.unusedSimpArgs false

theorem before_iff (a b : Rec) : before a b = true ↔ a.dead = false ∧ (b.dead = true ∨ a.key.toInt < b.key.toInt ∨ a.key.toInt = b.key.toInt ∧ a.seq.toInt < b.seq.toInt) := by
  unfold before
  simp [Int64.lt_iff_toInt_lt, ← Int64.toInt_inj]
  cases a.dead <;> cases b.dead <;> simp
theorem ahead_iff (a b : Rec) : ahead a b = true ↔ a.dead = false ∧ (b.dead = true ∨ a.key.toInt < b.key.toInt) := by
  unfold ahead
  simp [Int64.lt_iff_toInt_lt]
theorem before_trans {a b c : Rec} (h1 : before a b = true) (h2 : before b c = true) : before a c = true := by
  rw [before_iff] at *
  obtain ⟨x, y⟩ := h1
  obtain ⟨z, t⟩ := h2
  refine ⟨x, ?_⟩
  rcases y with y | y | y <;> rcases t with t | t | t
  · rw [y] at z; cases z
  · rw [y] at z; cases z
  · rw [y] at z; cases z
  · exact .inl t
  · exact .inr (.inl (by omega))
  · exact .inr (.inl (by omega))
  · exact .inl t
  · exact .inr (.inl (by omega))
  · exact .inr (.inr (by omega))
theorem before_asym {a b : Rec} (h1 : before a b = true) : before b a = false := by
  cases h : before b a with
  | false => rfl
  | true =>
    rw [before_iff] at *
    obtain ⟨x, y⟩ := h1
    obtain ⟨z, t⟩ := h
    rw [z] at y; rw [x] at t
    simp at y t
    omega
theorem ahead_asym {a b : Rec} (h1 : ahead a b = true) : ahead b a = false := by
  cases h : ahead b a with
  | false => rfl
  | true =>
    rw [ahead_iff] at *
    obtain ⟨x, y⟩ := h1
    obtain ⟨z, t⟩ := h
    rw [z] at y; rw [x] at t
    simp at y t
    omega
theorem ahead_before {a b : Rec} (h : ahead a b = true) : before a b = true := by
  rw [before_iff]; rw [ahead_iff] at h
  exact ⟨h.1, h.2.imp id .inl⟩

theorem b64_zero (b : Bool) : (b64 b = 0) = (b = false) := by cases b <;> simp [b64]
theorem before_two (a b : Rec) : decide ((1 : Int) < ((b64 (before a b) + b64 (before b a)).toNat : Int)) = false := by
  cases h : before a b with
  | false => cases before b a <;> decide
  | true => rw [before_asym h]; decide
theorem ahead_two (a b : Rec) : decide ((1 : Int) < ((b64 (ahead a b) + b64 (ahead b a)).toNat : Int)) = false := by
  cases h : ahead a b with
  | false => cases ahead b a <;> decide
  | true => rw [ahead_asym h]; decide
theorem before_trans' {a b c : Rec} (h1 : decide (b64 (before a b) = 0) = false) (h2 : decide (b64 (before b c) = 0) = false) : decide (b64 (before a c) = 1) = true := by
  simp only [b64_zero, b64_one, decide_eq_true_eq, decide_eq_false_iff_not, Bool.not_eq_false] at *
  exact before_trans h1 h2
theorem ahead_before' {a b : Rec} (h1 : decide (b64 (ahead a b) = 0) = false) : decide (b64 (before a b) = 1) = true := by
  simp only [b64_zero, b64_one, decide_eq_true_eq, decide_eq_false_iff_not, Bool.not_eq_false] at *
  exact ahead_before h1
theorem tot_before (a b : Rec) (ha : a.dead = false) (hb : b.dead = false) : decide (b64 (before a b) + b64 (before b a) = 1) = (decide (a.key ≠ b.key) || decide (a.seq ≠ b.seq)) := by
  have e : (b64 (before a b) + b64 (before b a) = 1) ↔ (before a b = true ∨ before b a = true) := by
    cases h : before a b with
    | false => cases before b a <;> simp [b64]
    | true => rw [before_asym h]; simp [b64]
  rw [Bool.eq_iff_iff]
  simp only [decide_eq_true_eq, Bool.or_eq_true]
  rw [e, before_iff, before_iff, ha, hb]
  simp [← Int64.toInt_inj]
  omega
theorem tot_ahead (a b : Rec) (ha : a.dead = false) (hb : b.dead = false) : decide (b64 (ahead a b) + b64 (ahead b a) = 1) = decide (a.key ≠ b.key) := by
  have e : (b64 (ahead a b) + b64 (ahead b a) = 1) ↔ (ahead a b = true ∨ ahead b a = true) := by
    cases h : ahead a b with
    | false => cases ahead b a <;> simp [b64]
    | true => rw [ahead_asym h]; simp [b64]
  simp only [decide_eq_decide]
  rw [e, ahead_iff, ahead_iff, ha, hb]
  simp [← Int64.toInt_inj]
  omega
end Go.Proofs.Ytldkjjnjdjfipaa
