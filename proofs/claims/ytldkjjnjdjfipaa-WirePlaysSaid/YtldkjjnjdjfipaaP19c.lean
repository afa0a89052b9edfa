/- P19c: the first letter of a box. Plain. -/
import Derived.Test.YtldkjjnjdjfipaaP19b
namespace Go.Proofs.Ytldkjjnjdjfipaa
open Go Go.RowKit
set_option linter.unusedVariables false
set_option linter.unusedSimpArgs false
def LOK (ls : List Let) : Prop := ∀ x ∈ ls, x.d.length = x.n ∧ x.n ≤ 1000000
def NoT (t : Int) (bs : List Let) (k : Nat) : Prop := ∀ q, q < k → ¬ (bs.getD q default).to = t
theorem noT_0 (t : Int) (bs : List Let) : NoT t bs 0 := fun q h => by omega
theorem noT_step {t : Int} {bs : List Let} {k : Nat} (h : NoT t bs k) (he : ¬ (bs.getD k default).to = t) : NoT t bs (k + 1) := by
  intro q hq
  by_cases h2 : q = k
  · rw [h2]; exact he
  · exact h q (by omega)
def fdT (t : Int) (bs : List Let) : Nat := bs.findIdx fun x => decide (x.to = t)
theorem fd_at {t : Int} {bs : List Let} {k : Nat} (h : NoT t bs k) (hk : k < bs.length) (he : (bs.getD k default).to = t) : fdT t bs = k := by
  unfold fdT
  rw [List.findIdx_eq hk]
  rw [List.getD_eq_getElem?_getD, List.getElem?_eq_getElem hk, Option.getD_some] at he
  refine ⟨decide_eq_true he, fun j hj => ?_⟩
  have h2 := h j hj
  rw [List.getD_eq_getElem?_getD, List.getElem?_eq_getElem (by omega), Option.getD_some] at h2
  exact decide_eq_false h2
theorem fd_no {t : Int} {bs : List Let} {k : Nat} (h : NoT t bs k) (hk : bs.length ≤ k) : ¬ fdT t bs < bs.length := by
  intro h2
  have h3 := List.findIdx_getElem (xs := bs) (p := fun x : Let => decide (x.to = t)) (w := h2)
  refine h (fdT t bs) (by omega) ?_
  rw [List.getD_eq_getElem?_getD, List.getElem?_eq_getElem h2, Option.getD_some]
  exact of_decide_eq_true h3
def tkB (t : Int) (bs : List Let) : List Let := if fdT t bs < bs.length then cutL bs (fdT t bs) else bs
def tkD (t : Int) (bs : List Let) : List UInt8 := if fdT t bs < bs.length then (bs.getD (fdT t bs) default).d else []
theorem tk_1 {t : Int} {bs : List Let} {k : Nat} (h : NoT t bs k) (hk : k < bs.length) (he : (bs.getD k default).to = t) : tkB t bs = cutL bs k ∧ tkD t bs = (bs.getD k default).d ∧ decide (fdT t bs < bs.length) = true := by
  have h2 := fd_at h hk he
  unfold tkB tkD
  rw [h2, if_pos hk, if_pos hk]
  exact ⟨rfl, rfl, decide_eq_true hk⟩
theorem tk_0 {t : Int} {bs : List Let} {k : Nat} (h : NoT t bs k) (hk : bs.length ≤ k) : tkB t bs = bs ∧ tkD t bs = [] ∧ decide (fdT t bs < bs.length) = false := by
  have h2 := fd_no h hk
  unfold tkB tkD
  rw [if_neg h2, if_neg h2]
  exact ⟨rfl, rfl, decide_eq_false h2⟩
end Go.Proofs.Ytldkjjnjdjfipaa
