/- What has stood in a pair, words. -/
import Derived.Test.YtldkjjnjdjfipaaWNetI
namespace Go.Proofs.Ytldkjjnjdjfipaa
open Go Go.RowKit
set_option linter.unusedVariables false
set_option linter.unusedSimpArgs false
set_option maxRecDepth 10000
set_option maxHeartbeats 1000000

/-- the places that stand in the first i pairs -/
def seenTo (K r i : Nat) : List Bool := (List.range (2 ^ K)).map fun p => decide (∃ j, j < i ∧ j < (frs ((2 ^ K : Nat) : Int) (r : Int)).length ∧ (p = (frs ((2 ^ K : Nat) : Int) (r : Int)).getD j 0 ∨ p = (frs ((2 ^ K : Nat) : Int) (r : Int)).getD j 0 + 2 ^ ((stK K r).2 - 1)))
theorem seenTo_len (K r i : Nat) : (seenTo K r i).length = 2 ^ K := by simp [seenTo]
theorem seenTo_0 (K r : Nat) : List.replicate (2 ^ K) false = seenTo K r 0 := by
  apply List.ext_getElem
  · simp [seenTo]
  · intro i h1 h2
    simp [seenTo]
theorem seenTo_at {K r i p : Nat} (hp : p < 2 ^ K) : (seenTo K r i).getD p default = decide (∃ j, j < i ∧ j < (frs ((2 ^ K : Nat) : Int) (r : Int)).length ∧ (p = (frs ((2 ^ K : Nat) : Int) (r : Int)).getD j 0 ∨ p = (frs ((2 ^ K : Nat) : Int) (r : Int)).getD j 0 + 2 ^ ((stK K r).2 - 1))) := by
  unfold seenTo
  rw [List.getD_eq_getElem?_getD, List.getElem?_map, List.getElem?_range hp]
  rfl
theorem firsts_inc (n d : Nat) : (Bit.firsts n d).Pairwise (· < ·) := List.Pairwise.filter _ (List.pairwise_lt_range)
theorem frs_bit {K r j : Nat} (h : K ≤ 16) (hr : r < rnd ((2 ^ K : Nat) : Int)) (hj : j < (frs ((2 ^ K : Nat) : Int) (r : Int)).length) : (frs ((2 ^ K : Nat) : Int) (r : Int)).getD j 0 / 2 ^ ((stK K r).2 - 1) % 2 = 0 := by
  have hm : (frs ((2 ^ K : Nat) : Int) (r : Int))[j] ∈ frs ((2 ^ K : Nat) : Int) (r : Int) := List.getElem_mem hj
  have := (frs_mem hm).2.2.1
  rw [farK h hr] at this
  rw [List.getD_eq_getElem?_getD, List.getElem?_eq_getElem hj, Option.getD_some]
  exact this
theorem frs_ne {K r i j : Nat} (h : K ≤ 16) (hr : r < rnd ((2 ^ K : Nat) : Int)) (hij : j < i) (hi : i < (frs ((2 ^ K : Nat) : Int) (r : Int)).length) : (frs ((2 ^ K : Nat) : Int) (r : Int)).getD j 0 < (frs ((2 ^ K : Nat) : Int) (r : Int)).getD i 0 := by
  have hp := firsts_inc (2 ^ K) (2 ^ ((stK K r).2 - 1))
  rw [← frsK h hr] at hp
  have := List.pairwise_iff_getElem.1 hp j i (by omega) hi hij
  rw [List.getD_eq_getElem?_getD, List.getElem?_eq_getElem (by omega : j < _), List.getD_eq_getElem?_getD, List.getElem?_eq_getElem hi]
  exact this
theorem seen_a {K r i a : Nat} (h : K ≤ 16) (hr : r < rnd ((2 ^ K : Nat) : Int)) (hi : i < (frs ((2 ^ K : Nat) : Int) (r : Int)).length) (p : PairK K r i a) :
    (seenTo K r i).getD a default = false ∧ (seenTo K r i).getD (a + 2 ^ ((stK K r).2 - 1)) default = false := by
  have hdp := Nat.two_pow_pos ((stK K r).2 - 1)
  have hlt := p.lt
  have hb := frs_bit h hr hi
  rw [p.g] at hb
  have hb1 := Bit.partner_bit0 hb
  refine ⟨?_, ?_⟩
  · rw [seenTo_at (by omega), decide_eq_false_iff_not]
    rintro ⟨j, h1, h2, h3 | h3⟩
    · have := frs_ne h hr h1 hi; rw [p.g] at this; omega
    · have := Bit.partner_bit0 (frs_bit h hr h2); rw [← h3, hb] at this; cases this
  · rw [seenTo_at hlt, decide_eq_false_iff_not]
    rintro ⟨j, h1, h2, h3 | h3⟩
    · have := frs_bit h hr h2; rw [← h3, hb1] at this; cases this
    · have := frs_ne h hr h1 hi; rw [p.g] at this; omega
theorem getD_setB {x : List Bool} {a c : Nat} {y : Bool} (h : a < x.length) : (x.set a y).getD c default = if c = a then y else x.getD c default := by
  rw [List.getD_eq_getElem?_getD, List.getElem?_set]
  by_cases hc : c = a
  · subst hc; simp [h]
  · rw [if_neg (fun e => hc e.symm), if_neg hc, List.getD_eq_getElem?_getD]
theorem seen_no1 {K r i a : Nat} (h : K ≤ 16) (hr : r < rnd ((2 ^ K : Nat) : Int)) (hi : i < (frs ((2 ^ K : Nat) : Int) (r : Int)).length) (p : PairK K r i a) : (seenTo K r i).getD ((frsZ ((2 ^ K : Nat) : Int) (r : Int)).getD i default).toNat default = false := by
  rw [p.z]; exact (seen_a h hr hi p).1
theorem seen_no2 {K r i a : Nat} (h : K ≤ 16) (hr : r < rnd ((2 ^ K : Nat) : Int)) (hi : i < (frs ((2 ^ K : Nat) : Int) (r : Int)).length) (p : PairK K r i a) :
    ((seenTo K r i).set ((frsZ ((2 ^ K : Nat) : Int) (r : Int)).getD i default).toNat true).getD ((frsY ((2 ^ K : Nat) : Int) (r : Int)).getD i default).toNat default = false := by
  have hdp := Nat.two_pow_pos ((stK K r).2 - 1)
  have hlt := p.lt
  rw [p.z, p.y, Int.toNat_natCast, Int.toNat_natCast, getD_setB (by rw [seenTo_len]; omega), if_neg (by omega)]
  exact (seen_a h hr hi p).2
theorem seen_set {K r i a : Nat} (h : K ≤ 16) (hr : r < rnd ((2 ^ K : Nat) : Int)) (hi : i < (frs ((2 ^ K : Nat) : Int) (r : Int)).length) (p : PairK K r i a) :
    ((seenTo K r i).set ((frsZ ((2 ^ K : Nat) : Int) (r : Int)).getD i default).toNat true).set ((frsY ((2 ^ K : Nat) : Int) (r : Int)).getD i default).toNat true = seenTo K r (i + 1) := by
  have hlt := p.lt
  rw [p.z, p.y, Int.toNat_natCast, Int.toNat_natCast]
  apply List.ext_getElem
  · simp [seenTo]
  · intro q h1 h2
    simp [seenTo] at h1 h2
    rw [List.getElem_set, List.getElem_set]
    simp only [seenTo, List.getElem_map, List.getElem_range]
    by_cases e1 : a + 2 ^ ((stK K r).2 - 1) = q
    · rw [if_pos e1]; symm; rw [decide_eq_true_iff]
      exact ⟨i, by omega, hi, .inr (by rw [p.g]; exact e1.symm)⟩
    · rw [if_neg e1]
      by_cases e2 : a = q
      · rw [if_pos e2]; symm; rw [decide_eq_true_iff]
        exact ⟨i, by omega, hi, .inl (by rw [p.g]; exact e2.symm)⟩
      · rw [if_neg e2]
        rw [decide_eq_decide]
        constructor
        · rintro ⟨j, h3, h4, h5⟩; exact ⟨j, by omega, h4, h5⟩
        · rintro ⟨j, h3, h4, h5⟩
          by_cases hj : j = i
          · subst hj; rw [p.g] at h5; omega
          · exact ⟨j, by omega, h4, h5⟩
theorem firsts_half (t : Nat) : ∀ m, (Bit.firsts (m * (2 * 2 ^ t)) (2 ^ t)).length = m * 2 ^ t := fun m => by
  have hp := Nat.two_pow_pos t
  have low : ∀ m j, j ≤ 2 ^ t → (Bit.firsts (m * (2 * 2 ^ t) + j) (2 ^ t)).length = (Bit.firsts (m * (2 * 2 ^ t)) (2 ^ t)).length + j := fun m j => by
    induction j with
    | zero => intro _; rfl
    | succ j ih =>
      intro hj
      rw [← Nat.add_assoc, Bit.firsts_succ, if_pos ?_, List.length_append, ih (by omega)]
      · rfl
      · rw [← Nat.mul_assoc, Nat.add_comm, Nat.add_mul_div_right _ _ hp, Nat.div_eq_of_lt (by omega)]; omega
  have high : ∀ m j, j ≤ 2 ^ t → (Bit.firsts (m * (2 * 2 ^ t) + (2 ^ t + j)) (2 ^ t)).length = (Bit.firsts (m * (2 * 2 ^ t)) (2 ^ t)).length + 2 ^ t := fun m j => by
    induction j with
    | zero => intro _; exact low m _ (Nat.le_refl _)
    | succ j ih =>
      intro hj
      rw [show m * (2 * 2 ^ t) + (2 ^ t + (j + 1)) = m * (2 * 2 ^ t) + (2 ^ t + j) + 1 by omega, Bit.firsts_succ, if_neg ?_, ih (by omega)]
      have e : m * (2 * 2 ^ t) + (2 ^ t + j) = j + (2 * m + 1) * 2 ^ t := by
        rw [Nat.add_mul, Nat.one_mul, ← Nat.mul_assoc, Nat.mul_comm m 2]; omega
      rw [e, Nat.add_mul_div_right _ _ hp, Nat.div_eq_of_lt (by omega)]; omega
  induction m with
  | zero => simp [Bit.firsts]
  | succ m ih =>
    have := high m (2 ^ t) (Nat.le_refl _)
    rw [ih] at this
    rw [show (m + 1) * (2 * 2 ^ t) = m * (2 * 2 ^ t) + (2 ^ t + 2 ^ t) by rw [Nat.succ_mul]; omega, this, Nat.succ_mul]
theorem frs_half {K r : Nat} (h : K ≤ 16) (hr : r < rnd ((2 ^ K : Nat) : Int)) : (frs ((2 ^ K : Nat) : Int) (r : Int)).length = 2 ^ K / 2 := by
  rw [frsK h hr]
  have hb := stp_bd ((2 ^ K : Nat) : Int) (r : Int)
  have hp := stK_pos h hr
  have hs : (stK K r).1 ≤ K := by
    have h1 := rnd_tri h
    rw [h1] at hr
    obtain ⟨s, j, h1, h2, rfl⟩ := Bit.tri_find K r hr
    rw [stK_at h s j h1 h2]
    show s + 1 ≤ K
    omega
  have hbb : (stK K r).2 ≤ (stK K r).1 ∧ (0 < (stK K r).1 → 1 ≤ (stK K r).2) := ⟨hb.2.1, hb.2.2⟩
  generalize (stK K r).2 = t at *
  obtain ⟨u, hu⟩ : ∃ u, t = u + 1 := ⟨t - 1, by omega⟩
  subst hu
  rw [Nat.add_sub_cancel]
  have e : 2 ^ K = 2 ^ (K - (u + 1)) * (2 * 2 ^ u) := by rw [← Nat.pow_succ', ← Nat.pow_add]; congr 1; omega
  rw [e, firsts_half]
  rw [Nat.mul_left_comm, Nat.mul_div_cancel_left _ (by decide)]
theorem rnd_zero {K : Nat} (h : K ≤ 16) (h0 : rnd ((2 ^ K : Nat) : Int) = 0) : K = 0 := by
  rw [rnd_tri h] at h0
  cases K with
  | zero => rfl
  | succ k => rw [Bit.tri_succ] at h0; omega
theorem rnd28 {K : Nat} (h : K < 8) : rnd ((2 ^ K : Nat) : Int) ≤ 28 := by
  rw [rnd_tri (by omega)]
  have h2 := Bit.tri_mono (show K ≤ 7 by omega)
  have h3 : Bit.tri 7 = 28 := by decide
  omega

end Go.Proofs.Ytldkjjnjdjfipaa
