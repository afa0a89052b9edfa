/- Which pairs are up, words. -/
import Derived.Test.YtldkjjnjdjfipaaWNetS
namespace Go.Proofs.Ytldkjjnjdjfipaa
open Go Go.RowKit
set_option linter.unusedVariables false
set_option linter.unusedSimpArgs false
set_option maxRecDepth 10000
set_option maxHeartbeats 1000000

theorem z2_shl {m : Nat} (h : m ≤ 20) : IntKind.i64.wrap (2 * 2 ^ min ((m : Nat) : Int).toNat IntKind.i64.bits) = (((2 ^ (m + 1)) : Nat) : Int) := by
  have e : min ((m : Nat) : Int).toNat IntKind.i64.bits = m := by rw [Int.toNat_natCast]; exact Nat.min_eq_left (Nat.le_trans (show m ≤ 64 by omega) (by decide))
  rw [e]
  have hp : (2 : Nat) ^ (m + 1) ≤ 2 ^ 21 := Nat.pow_le_pow_right (by decide) (by omega)
  have h0 := Int.natCast_nonneg (2 ^ (m + 1))
  exact wI (by rw [Nat.pow_succ, Nat.mul_comm]; simp) (by omega) (by omega)
theorem last_st {K r j : Nat} (h : K ≤ 16) (hj : j < K ∧ r = Bit.tri (K - 1) + j) : r < rnd ((2 ^ K : Nat) : Int) ∧ stK K r = (K, K - j) := by
  obtain ⟨k, rfl⟩ : ∃ k, K = k + 1 := ⟨K - 1, by omega⟩
  rw [Nat.add_sub_cancel] at hj
  have h1 := stK_at h k j (by omega) (by omega)
  refine ⟨?_, by rw [hj.2, h1]⟩
  rw [rnd_tri h, Bit.tri_succ]
  omega
theorem ways1 {K r i : Nat} (h : K ≤ 16) (hj : ∃ j, j < K ∧ r = Bit.tri (K - 1) + j) (hi : i < (frsZ ((2 ^ K : Nat) : Int) (r : Int)).length) : up ((2 ^ K : Nat) : Int) (r : Int) ((frsZ ((2 ^ K : Nat) : Int) (r : Int)).getD i default) = true := by
  obtain ⟨j, hj⟩ := hj
  obtain ⟨h1, h2⟩ := last_st h hj
  obtain ⟨a, p⟩ := pairK h h1 (by rw [← frsZ_len]; exact hi)
  rw [p.z, p.u, h2]
  have := p.lt
  have hd := Nat.two_pow_pos ((stK K r).2 - 1)
  show decide (a / 2 ^ K % 2 = 0) = true
  rw [Nat.div_eq_of_lt (by omega)]
  rfl
theorem firsts1 : ∀ m, Bit.firsts (2 * m) 1 = (List.range m).map (2 * ·)
  | 0 => rfl
  | m + 1 => by
    rw [show 2 * (m + 1) = 2 * m + 1 + 1 by omega, Bit.firsts_succ, if_neg (by rw [Nat.div_one]; omega), Bit.firsts_succ, if_pos (by rw [Nat.div_one]; omega), firsts1 m, List.range_succ, List.map_append]
    rfl
theorem ways0 {K i : Nat} (h : K ≤ 16) (hK : 1 ≤ K) (hi : i < (frsZ ((2 ^ K : Nat) : Int) 0).length) : up ((2 ^ K : Nat) : Int) 0 ((frsZ ((2 ^ K : Nat) : Int) 0).getD i default) = decide (i % 2 = 0) := by
  have h1 : stK K 0 = (1, 1) := stK_at h 0 0 (by omega) (by omega)
  have h2 : 0 < rnd ((2 ^ K : Nat) : Int) := by
    rw [rnd_tri h]
    have := Bit.tri_mono hK
    have e : Bit.tri 1 = 1 := rfl
    omega
  obtain ⟨a, p⟩ := pairK (K := K) (r := 0) h h2 (by rw [← frsZ_len]; exact hi)
  have hz := p.z
  have hu := p.u
  rw [h1] at hu
  have e0 : ((0 : Nat) : Int) = 0 := rfl
  rw [e0] at hz hu
  rw [hz, hu]
  have hg := p.g
  have hf := frsK (K := K) (r := 0) h h2
  rw [h1] at hf
  have hl : i < (frs ((2 ^ K : Nat) : Int) ((0 : Nat) : Int)).length := by rw [← frsZ_len]; exact hi
  rw [hf] at hg hl
  have ep : 2 ^ K = 2 * 2 ^ (K - 1) := by rw [← Nat.pow_succ']; congr 1; omega
  have hg2 : (Bit.firsts (2 * 2 ^ (K - 1)) 1).getD i 0 = a := by rw [← ep]; exact hg
  have hl2 : i < (Bit.firsts (2 * 2 ^ (K - 1)) 1).length := by rw [← ep]; exact hl
  rw [firsts1] at hg2 hl2
  simp at hl2
  simp [List.getD_eq_getElem?_getD, hl2] at hg2
  rw [decide_eq_decide]
  show a / 2 ^ 1 % 2 = 0 ↔ _
  omega
theorem rnd1 {K : Nat} (h : K ≤ 6) (hK : 1 ≤ K) : 1 ≤ rnd ((2 ^ K : Nat) : Int) ∧ rnd ((2 ^ K : Nat) : Int) ≤ 21 ∧ K ≤ rnd ((2 ^ K : Nat) : Int) := by
  rw [rnd_tri (by omega)]
  have h2 := Bit.tri_mono h
  have h3 : Bit.tri 6 = 21 := by decide
  obtain ⟨k, rfl⟩ : ∃ k, K = k + 1 := ⟨K - 1, by omega⟩
  rw [Bit.tri_succ] at h2 ⊢
  omega
theorem pow_not {i : Nat} (h : ¬ 1 < 2 ^ i) : i = 0 := by
  rcases Nat.eq_zero_or_pos i with h0 | h0
  · exact h0
  · have := Nat.pow_le_pow_right (n := 2) (by decide) h0; omega
theorem ways_r {K m : Nat} (h : K ≤ 6) (hm : m < K) : ∃ j, j < K ∧ rnd ((2 ^ K : Nat) : Int) - 1 - m = Bit.tri (K - 1) + j := by
  rw [rnd_tri (by omega)]
  obtain ⟨k, rfl⟩ : ∃ k, K = k + 1 := ⟨K - 1, by omega⟩
  rw [Bit.tri_succ, Nat.add_sub_cancel]
  exact ⟨k - m, by omega, by omega⟩

end Go.Proofs.Ytldkjjnjdjfipaa
