/- Plain law: the sort by pairs and the reference's sort are one. -/
import Derived.Test.YtldkjjnjdjfipaaP14b
import Derived.Test.YtldkjjnjdjfipaaWMrg7
namespace Go.Proofs.Ytldkjjnjdjfipaa
open Go Go.RowKit
set_option linter.unusedVariables false
set_option linter.unusedSimpArgs false

theorem insPos_spec (sq : Bool) (r : Rec) (out : List Rec) : ∀ k, (∀ j, insPos sq r out k ≤ j → j < k → rk sq r < rk sq (out.getD j default)) ∧ (0 < insPos sq r out k → rk sq (out.getD (insPos sq r out k - 1) default) ≤ rk sq r)
  | 0 => ⟨fun j h1 h2 => by omega, fun h => by simp [insPos] at h⟩
  | k + 1 => by
    have ih := insPos_spec sq r out k
    unfold insPos
    split
    · rename_i h
      rw [ahd_rk, decide_eq_true_eq] at h
      refine ⟨fun j h1 h2 => ?_, ih.2⟩
      rcases Nat.lt_or_ge j k with h3 | h3
      · exact ih.1 j h1 h3
      · obtain rfl : j = k := by omega
        exact h
    · rename_i h
      rw [ahd_rk, decide_eq_true_eq] at h
      exact ⟨fun j h1 h2 => by omega, fun _ => by rw [Nat.add_sub_cancel]; omega⟩
theorem insR_srt (sq : Bool) (r : Rec) (out : List Rec) (hs : Srt sq out) : Srt sq (insR sq r out) := by
  have hp := insPos_spec sq r out out.length
  have hle := insPos_le sq r out out.length
  unfold insR
  generalize insPos sq r out out.length = p at *
  have hs' := hs
  unfold Srt at hs ⊢
  have hsp : out = out.take p ++ out.drop p := (List.take_append_drop p out).symm
  have hs2 := hs
  rw [hsp, List.pairwise_append] at hs2
  have low : ∀ a ∈ out.take p, rk sq a ≤ rk sq r := fun a ha => by
    obtain ⟨j, hj, rfl⟩ := List.getElem_of_mem ha
    rw [List.length_take] at hj
    rw [List.getElem_take]
    have h1 := hp.2 (by omega)
    rw [List.pairwise_iff_getElem] at hs
    rcases Nat.lt_or_ge j (p - 1) with h | h
    · have h2 := hs j (p - 1) (by omega) (by omega) h
      have h3 : out.getD (p - 1) default = out[p - 1]'(by omega) := by simp [List.getD_eq_getElem?_getD, (by omega : p - 1 < out.length)]
      rw [h3] at h1
      omega
    · obtain rfl : j = p - 1 := by omega
      have h3 : out.getD (p - 1) default = out[p - 1]'(by omega) := by simp [List.getD_eq_getElem?_getD, (by omega : p - 1 < out.length)]
      rw [h3] at h1
      exact h1
  have high : ∀ b ∈ out.drop p, rk sq r < rk sq b := fun b hb => by
    obtain ⟨j, hj, rfl⟩ := List.getElem_of_mem hb
    rw [List.length_drop] at hj
    rw [List.getElem_drop]
    have h1 := hp.1 (p + j) (by omega) (by omega)
    have h3 : out.getD (p + j) default = out[p + j]'(by omega) := by simp [List.getD_eq_getElem?_getD, (by omega : p + j < out.length)]
    rw [h3] at h1
    exact h1
  rw [List.append_assoc, List.pairwise_append]
  refine ⟨hs2.1, ?_, ?_⟩
  · show (r :: out.drop p).Pairwise _
    rw [List.pairwise_cons]
    exact ⟨fun b hb => by have := high b hb; omega, hs2.2.1⟩
  · intro a ha b hb
    rcases List.mem_append.1 hb with hb | hb
    · rw [List.mem_singleton] at hb; subst hb; exact low a ha
    · have := low a ha; have := high b hb; omega
theorem insR_rk (sq : Bool) (v : Int) (r : Rec) (out : List Rec) (hs : Srt sq out) : ofRk sq v (insR sq r out) = ofRk sq v out ++ ofRk sq v [r] := by
  have hp := insPos_spec sq r out out.length
  have hle := insPos_le sq r out out.length
  unfold insR
  generalize insPos sq r out out.length = p at *
  have e : ofRk sq v out = ofRk sq v (out.take p) ++ ofRk sq v (out.drop p) := by
    unfold ofRk; rw [← List.filter_append, List.take_append_drop]
  rw [e]
  by_cases h : rk sq r = v
  · have h0 : ofRk sq v (out.drop p) = [] := by
      unfold ofRk
      rw [List.filter_eq_nil_iff]
      intro b hb
      obtain ⟨j, hj, rfl⟩ := List.getElem_of_mem hb
      rw [List.length_drop] at hj
      rw [List.getElem_drop]
      have h1 := hp.1 (p + j) (by omega) (by omega)
      have h3 : out.getD (p + j) default = out[p + j]'(by omega) := by simp [List.getD_eq_getElem?_getD, (by omega : p + j < out.length)]
      rw [h3] at h1
      simp only [decide_eq_true_eq]
      omega
    rw [h0]
    unfold ofRk at *
    simp only [List.filter_append, h0, List.append_nil]
  · have h0 : ofRk sq v [r] = [] := by unfold ofRk; simp [h]
    rw [h0]
    unfold ofRk at *
    simp only [List.filter_append, h0, List.append_nil]
theorem isortTo_ok (sq : Bool) (l : List Rec) : ∀ i, i ≤ l.length → Srt sq (isortTo sq l i) ∧ ∀ v, ofRk sq v (isortTo sq l i) = ofRk sq v (l.take i)
  | 0, _ => ⟨List.Pairwise.nil, fun v => rfl⟩
  | i + 1, h => by
    have ih := isortTo_ok sq l i (by omega)
    refine ⟨insR_srt sq _ _ ih.1, fun v => ?_⟩
    show ofRk sq v (insR sq _ _) = _
    rw [insR_rk sq v _ _ ih.1, ih.2 v, List.take_succ_eq_append_getElem (by omega : i < l.length)]
    unfold ofRk
    rw [List.filter_append]
    simp [List.getD_eq_getElem?_getD, (by omega : i < l.length)]
/-- **The two sorts are one.** -/
theorem isort_eq (sq : Bool) (l : List Rec) : isort sq l = msort sq l := by
  have h := isortTo_ok sq l l.length (Nat.le_refl _)
  refine srt_unique sq _ _ h.1 (srt_msort sq l) fun v => ?_
  rw [msort_rk]
  have := h.2 v
  rw [List.take_length] at this
  exact this
end Go.Proofs.Ytldkjjnjdjfipaa
