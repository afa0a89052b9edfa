/- The size of the network, walked. -/
import Derived.Test.YtldkjjnjdjfipaaWBit2
namespace Go.Proofs.Ytldkjjnjdjfipaa
open Go Go.RowKit
set_option linter.unusedVariables false
set_option linter.unusedSimpArgs false
set_option maxRecDepth 10000

theorem awake13_c (w : World) : Pure Try.prog 51 #[] w (.bool true) := by
  refine calls_S (n := 10) (σ0 := fr0) (D := []) (A := []) Try.func51 rfl Try.ntmps51 rfl (a0_fr) (SH.start w) ?_
  refine wpS_seq ?_
  refine wpS_region ?_
  refine s_y (v := .bool false) (y_assign rfl) rfl ?_
  refine wpL_nil ?_
  refine thenS_n ?_
  refine wpS_seq ?_
  refine wpS_region ?_
  refine s_y (v := .int .i64 ((((rnd 4) : Nat) : Int))) (y_call (args := #[.int .i64 4]) (v := .int .i64 ((((rnd 4) : Nat) : Int))) Try.call52 (ev1 rfl) (fun w hs => rounds_c 4 (by omega) (by omega) w)) rfl ?_
  refine s_y (v := .bool (decide (((rnd 4) : Nat) = 3))) (y_eql (a := (((rnd 4) : Nat) : Int)) (b := 3) (c := decide (((rnd 4) : Nat) = 3)) rfl rfl (by simp only [decide_eq_decide]; omega)) rfl ?_
  refine s_y (v := .bool (decide (((rnd 4) : Nat) = 3))) (y_move rfl) rfl ?_
  refine s_gy (y_call (args := #[.int .i64 5]) (v := .int .i64 ((((pad 5) : Nat) : Int))) Try.call50 (ev1 rfl) (fun w hs => padded_c 5 (by omega) (by omega) w)) rfl rfl rfl rfl (b' := decide (((rnd 4) : Nat) = 3)) rfl (by kernel_rfl) ?_
  refine s_gy (y_eql (a := (((pad 5) : Nat) : Int)) (b := 8) (c := decide (((pad 5) : Nat) = 8)) rfl rfl (by simp only [decide_eq_decide]; omega)) rfl rfl rfl rfl (b' := decide (((rnd 4) : Nat) = 3)) rfl (by kernel_rfl) ?_
  refine s_y (v := .bool (decide (((pad 5) : Nat) = 8))) (y_pickT (b := decide (((rnd 4) : Nat) = 3)) (v := .bool (decide (((pad 5) : Nat) = 8))) rfl (by kernel_rfl) rfl) rfl ?_
  refine s_y (v := .bool (decide (((pad 5) : Nat) = 8))) (y_move rfl) rfl ?_
  refine s_gy (y_call (args := #[.int .i64 4, .int .i64 0, .int .i64 0]) (v := .bool ((up 4 0 0))) Try.call59 (ev3 rfl rfl rfl) (fun w hs => up_c 4 0 0 (by omega) (by omega) (by omega) (by omega) (by omega) (by omega) w)) rfl rfl rfl rfl (b' := decide (((pad 5) : Nat) = 8)) rfl (by kernel_rfl) ?_
  refine s_y (v := .bool ((up 4 0 0))) (y_pickT (b := decide (((pad 5) : Nat) = 8)) (v := .bool ((up 4 0 0))) rfl (by kernel_rfl) rfl) rfl ?_
  refine s_y (v := .bool ((up 4 0 0))) (y_assign rfl) rfl ?_
  refine wpL_nil ?_
  refine thenS_n ?_
  refine wpS_ret ?_
  refine fin1 (v := .bool ((up 4 0 0))) (.inr rfl) .nil Try.results51 rfl ?_
  exact fun w' hs => ⟨(by kernel_rfl), hs⟩

def tri (s : Nat) : Nat := s * (s + 1) / 2
theorem tri_succ (s : Nat) : tri (s + 1) = tri s + (s + 1) := by
  have h : (s + 1) * (s + 1 + 1) = s * (s + 1) + (s + 1) * 2 := by rw [Nat.succ_mul, Nat.mul_succ]; omega
  unfold tri
  rw [h, Nat.add_mul_div_right _ _ (by decide)]
theorem rnd_pow : ∀ k, k < 17 → rnd ((2 ^ k : Nat) : Int) = tri k := by decide +kernel
theorem padJ (n : Int) : blen (clampP n - 1) ≤ 16 := by have := clampP_bd n; exact blen_le (by omega)
theorem pad_le (n : Int) : pad n ≤ 65536 := by
  have := Nat.pow_le_pow_right (n := 2) (by decide) (padJ n)
  unfold pad; omega
theorem pd1 (n : Int) : ¬ pad n < 1 := by have := Nat.two_pow_pos (blen (clampP n - 1)); unfold pad; omega
theorem pd2 (n : Int) : ¬ 65536 < pad n := by have := pad_le n; omega
theorem pd4 (n : Int) : ¬ ((pad n : Nat) : Int) < min n 65536 := by
  have h := lt_blen (clampP n - 1)
  have e : clampP n ≤ pad n := by unfold pad; omega
  have h2 : min n 65536 ≤ (clampP n : Int) := by unfold clampP; omega
  omega
theorem two_and (k : Nat) : 2 ^ k &&& (2 ^ k - 1) = 0 := by
  apply Nat.eq_of_testBit_eq
  intro i
  rw [Nat.testBit_and, Nat.testBit_two_pow, Nat.testBit_two_pow_sub_one]
  by_cases h : k = i
  · simp [h]
  · simp [h]
theorem pd3 (n : Int) : ¬ (pad n &&& (((pad n : Nat) : Int) - 1).toNat) ≠ 0 := by
  have e : (((pad n : Nat) : Int) - 1).toNat = pad n - 1 := by omega
  rw [e]
  unfold pad
  rw [two_and]
  simp
theorem pd5 (n : Int) (h : 1 < pad n) : ¬ (n ≤ ((pad n / 2 : Nat) : Int)) := by
  have hJ : 0 < blen (clampP n - 1) := by
    rcases Nat.eq_zero_or_pos (blen (clampP n - 1)) with h0 | h0
    · unfold pad at h; rw [h0] at h; omega
    · exact h0
  have hc : 0 < clampP n - 1 := by
    rcases Nat.eq_zero_or_pos (clampP n - 1) with h0 | h0
    · rw [h0] at hJ; simp [blen] at hJ
    · exact h0
  have h1 := blen_ge hc
  obtain ⟨j, hj⟩ : ∃ j, blen (clampP n - 1) = j + 1 := ⟨blen (clampP n - 1) - 1, by omega⟩
  have e : pad n / 2 = 2 ^ j := by unfold pad; rw [hj, Nat.pow_succ]; omega
  rw [hj, Nat.add_sub_cancel] at h1
  rw [e]
  have h3 : (clampP n : Int) ≤ max 1 n := by unfold clampP; omega
  omega
theorem pd6 (n : Int) (i : Nat) (h : ¬ 1 < 2 ^ i) : rnd ((pad n : Nat) : Int) = tri (blen (clampP n - 1) - i) := by
  have hi : i = 0 := by
    rcases Nat.eq_zero_or_pos i with h0 | h0
    · exact h0
    · have := Nat.pow_le_pow_right (n := 2) (by decide) h0
      omega
  subst hi
  unfold pad
  rw [rnd_pow _ (by have := padJ n; omega), Nat.sub_zero]
theorem tri_step (J i : Nat) (h : 1 ≤ i) (h2 : i ≤ J) : tri (J - i) + (J - i + 1) = tri (J - (i - 1)) := by
  rw [show J - (i - 1) = J - i + 1 by omega, tri_succ]
theorem half_pow (i : Nat) (h : 1 ≤ i) : 2 ^ i / 2 = 2 ^ (i - 1) := by
  obtain ⟨j, rfl⟩ : ∃ j, i = j + 1 := ⟨i - 1, by omega⟩
  rw [Nat.pow_succ, Nat.add_sub_cancel]; omega
theorem pow_one_lt {i : Nat} (h : 1 < 2 ^ i) : 1 ≤ i := by
  rcases Nat.eq_zero_or_pos i with h0 | h0
  · subst h0; simp at h
  · exact h0
theorem tri_le {J : Nat} (h : J ≤ 16) : tri J ≤ 136 := by
  have := Nat.mul_le_mul h (Nat.succ_le_succ h)
  unfold tri
  have e : J * J.succ = J * (J + 1) := rfl
  omega

theorem padded_law (n : Int) (n1 : -9223372036854775808 ≤ n) (n2 : n < 9223372036854775808) (w : World) : Pure Try.prog 6 #[.int .i64 n] w (.bool true) := by
  refine calls_S (n := 56) (σ0 := (upd fr0 0 (.int .i64 n))) (D := []) (A := []) Try.func6 rfl Try.ntmps6 rfl (a1_fr _) (SH.start w) ?_
  have hJ := padJ n
  have hp := pad_le n
  have hp1 := pd1 n
  refine wpS_seq ?_
  refine wpS_region ?_
  refine s_y (v := .bool false) (y_assign rfl) rfl ?_
  refine wpL_nil ?_
  refine thenS_n ?_
  refine wpS_seq ?_
  refine wpS_region ?_
  refine s_y (v := .int .i64 n) (y_move rfl) rfl ?_
  refine s_y (v := .int .i64 ((((pad n) : Nat) : Int))) (y_call (args := #[.int .i64 n]) (v := .int .i64 ((((pad n) : Nat) : Int))) Try.call50 (ev1 rfl) (fun w hs => padded_c n (by omega) (by omega) w)) rfl ?_
  refine s_y (v := .int .i64 ((((pad n) : Nat) : Int))) (y_assign rfl) rfl ?_
  refine wpL_nil ?_
  refine thenS_n ?_
  refine wpS_seq ?_
  refine wpS_seq ?_
  refine wpS_region ?_
  refine s_y (v := .bool true) (y_call (args := #[]) (v := .bool true) Try.call51 ev0 (fun w hs => awake13_c w)) rfl ?_
  refine s_y (v := .bool false) (y_notK (b := true) (c := false) rfl rfl) rfl ?_
  refine s_y (v := .bool false) (y_move rfl) rfl ?_
  refine s_gy (y_move rfl) rfl rfl rfl rfl rfl rfl ?_
  refine s_gy (y_lss (a := (((pad n) : Nat) : Int)) (b := 1) (c := decide (((pad n) : Nat) < 1)) rfl rfl (by simp only [decide_eq_decide]; omega)) rfl rfl rfl rfl rfl rfl ?_
  refine s_y (v := .bool (decide (((pad n) : Nat) < 1))) (y_pickF (v := .bool (decide (((pad n) : Nat) < 1))) rfl rfl rfl) rfl ?_
  refine s_y (v := .bool (decide (((pad n) : Nat) < 1))) (y_move rfl) rfl ?_
  refine s_gy (y_move rfl) rfl rfl rfl rfl (b' := decide (((pad n) : Nat) < 1)) rfl (decide_eq_false (pd1 n)) ?_
  refine s_gy (y_gtr (a := (((pad n) : Nat) : Int)) (b := 65536) (c := decide ((65536 : Nat) < (pad n))) rfl rfl (by simp only [decide_eq_decide]; omega)) rfl rfl rfl rfl (b' := decide (((pad n) : Nat) < 1)) rfl (decide_eq_false (pd1 n)) ?_
  refine s_y (v := .bool (decide ((65536 : Nat) < (pad n)))) (y_pickF (b := decide (((pad n) : Nat) < 1)) (v := .bool (decide ((65536 : Nat) < (pad n)))) rfl (decide_eq_false (pd1 n)) rfl) rfl ?_
  refine s_y (v := .bool (decide ((65536 : Nat) < (pad n)))) (y_move rfl) rfl ?_
  refine s_gy (y_move rfl) rfl rfl rfl rfl (b' := decide ((65536 : Nat) < (pad n))) rfl (decide_eq_false (pd2 n)) ?_
  refine s_gy (y_move rfl) rfl rfl rfl rfl (b' := decide ((65536 : Nat) < (pad n))) rfl (decide_eq_false (pd2 n)) ?_
  refine s_gy (y_sub (a := (((pad n) : Nat) : Int)) (b := 1) (c := (((pad n) : Nat) : Int) - 1) rfl rfl (wI rfl (by omega) (by omega))) rfl rfl rfl rfl (b' := decide ((65536 : Nat) < (pad n))) rfl (decide_eq_false (pd2 n)) ?_
  refine s_gy (y_and (a := (((pad n) : Nat) : Int)) (b := (((pad n) : Nat) : Int) - 1) (c := ((((pad n) &&& ((((pad n) : Nat) : Int) - 1).toNat) : Nat) : Int)) rfl rfl (zi_and (((pad n) : Nat) : Int) ((((pad n) : Nat) : Int) - 1) (by omega) (by omega) (by omega) (by omega))) rfl rfl rfl rfl (b' := decide ((65536 : Nat) < (pad n))) rfl (decide_eq_false (pd2 n)) ?_
  refine s_gy (y_neq (a := ((((pad n) &&& ((((pad n) : Nat) : Int) - 1).toNat) : Nat) : Int)) (b := 0) (c := decide ((((pad n) &&& ((((pad n) : Nat) : Int) - 1).toNat) : Nat) ≠ 0)) rfl rfl (by simp only [decide_eq_decide]; omega)) rfl rfl rfl rfl (b' := decide ((65536 : Nat) < (pad n))) rfl (decide_eq_false (pd2 n)) ?_
  refine s_y (v := .bool (decide ((((pad n) &&& ((((pad n) : Nat) : Int) - 1).toNat) : Nat) ≠ 0))) (y_pickF (b := decide ((65536 : Nat) < (pad n))) (v := .bool (decide ((((pad n) &&& ((((pad n) : Nat) : Int) - 1).toNat) : Nat) ≠ 0))) rfl (decide_eq_false (pd2 n)) rfl) rfl ?_
  refine s_y (v := .bool (decide ((((pad n) &&& ((((pad n) : Nat) : Int) - 1).toNat) : Nat) ≠ 0))) (y_move rfl) rfl ?_
  refine s_gy (y_move rfl) rfl rfl rfl rfl (b' := decide ((((pad n) &&& ((((pad n) : Nat) : Int) - 1).toNat) : Nat) ≠ 0)) rfl (decide_eq_false (pd3 n)) ?_
  refine s_gy (y_move rfl) rfl rfl rfl rfl (b' := decide ((((pad n) &&& ((((pad n) : Nat) : Int) - 1).toNat) : Nat) ≠ 0)) rfl (decide_eq_false (pd3 n)) ?_
  refine s_gy (y_min (a := n) (b := 65536) (c := min n 65536) rfl rfl (by split <;> omega)) rfl rfl rfl rfl (b' := decide ((((pad n) &&& ((((pad n) : Nat) : Int) - 1).toNat) : Nat) ≠ 0)) rfl (decide_eq_false (pd3 n)) ?_
  refine s_gy (y_lss (a := (((pad n) : Nat) : Int)) (b := min n 65536) rfl rfl rfl) rfl rfl rfl rfl (b' := decide ((((pad n) &&& ((((pad n) : Nat) : Int) - 1).toNat) : Nat) ≠ 0)) rfl (decide_eq_false (pd3 n)) ?_
  refine s_y (v := .bool (decide (((((pad n) : Nat) : Int) : Int) < (min n 65536)))) (y_pickF (b := decide ((((pad n) &&& ((((pad n) : Nat) : Int) - 1).toNat) : Nat) ≠ 0)) (v := .bool (decide (((((pad n) : Nat) : Int) : Int) < (min n 65536)))) rfl (decide_eq_false (pd3 n)) rfl) rfl ?_
  refine s_y (v := .bool (decide (((((pad n) : Nat) : Int) : Int) < (min n 65536)))) (y_move rfl) rfl ?_
  refine s_gy (y_move rfl) rfl rfl rfl rfl (b' := decide (((((pad n) : Nat) : Int) : Int) < (min n 65536))) rfl (decide_eq_false (pd4 n)) ?_
  refine s_gy (y_gtr (a := (((pad n) : Nat) : Int)) (b := 1) (c := decide ((1 : Nat) < (pad n))) rfl rfl (by simp only [decide_eq_decide]; omega)) rfl rfl rfl rfl (b' := decide (((((pad n) : Nat) : Int) : Int) < (min n 65536))) rfl (decide_eq_false (pd4 n)) ?_
  refine s_gy (y_move rfl) rfl rfl rfl rfl (b' := decide (((((pad n) : Nat) : Int) : Int) < (min n 65536))) rfl (decide_eq_false (pd4 n)) ?_
  rcases Bool.eq_false_or_eq_true (decide ((1 : Nat) < (pad n))) with b1 | b1
  · -- decide ((1 : Nat) < (pad n)) True
    have p1 := of_decide_eq_true b1
    refine s_gy (y_move rfl) rfl rfl rfl rfl (b' := decide ((1 : Nat) < (pad n))) rfl b1 ?_
    refine s_gy (y_quo (a := (((pad n) : Nat) : Int)) (b := 2) (c := ((((pad n) / 2) : Nat) : Int)) rfl rfl (by omega) (n_quo _ 2 (by omega) (by omega))) rfl rfl rfl rfl (b' := decide ((1 : Nat) < (pad n))) rfl b1 ?_
    refine s_gy (y_move rfl) rfl rfl rfl rfl (b' := decide ((1 : Nat) < (pad n))) rfl b1 ?_
    refine s_gy (y_geq (a := ((((pad n) / 2) : Nat) : Int)) (b := n) rfl rfl rfl) rfl rfl rfl rfl (b' := decide ((1 : Nat) < (pad n))) rfl b1 ?_
    refine s_gy (y_pickT (b := decide ((1 : Nat) < (pad n))) (v := .bool (decide ((n : Int) ≤ ((((pad n) / 2) : Nat) : Int)))) rfl b1 rfl) rfl rfl rfl rfl (b' := decide (((((pad n) : Nat) : Int) : Int) < (min n 65536))) rfl (decide_eq_false (pd4 n)) ?_
    refine s_y (v := .bool (decide ((n : Int) ≤ ((((pad n) / 2) : Nat) : Int)))) (y_pickF (b := decide (((((pad n) : Nat) : Int) : Int) < (min n 65536))) (v := .bool (decide ((n : Int) ≤ ((((pad n) / 2) : Nat) : Int)))) rfl (decide_eq_false (pd4 n)) rfl) rfl ?_
    refine wpL_nil ?_
    refine thenS_n ?_
    refine wpS_cond_F (t := decide ((n : Int) ≤ ((((pad n) / 2) : Nat) : Int))) rfl (decide_eq_false (pd5 n (of_decide_eq_true b1))) ?_
    refine wpS_skip ?_
    refine thenS_n ?_
    refine wpS_seq ?_
    refine wpS_region ?_
    refine s_y (v := .int .i64 0) (y_assign rfl) rfl ?_
    refine wpL_nil ?_
    refine thenS_n ?_
    refine wpS_seq ?_
    refine wpS_region ?_
    refine s_y (v := .int .i64 0) (y_assign rfl) rfl ?_
    refine wpL_nil ?_
    refine thenS_n ?_
    refine wpS_seq ?_
    refine wpS_seq ?_
    refine wpS_region ?_
    refine s_y (v := .int .i64 ((((pad n) : Nat) : Int))) (y_move rfl) rfl ?_
    refine s_y (v := .int .i64 ((((pad n) : Nat) : Int))) (y_assign rfl) rfl ?_
    refine wpL_nil ?_
    refine thenS_n ?_
    refine wpS_block ?_
    refine wpS_loop (fun m ds σ L => ∃ i : Nat, m = i ∧ i ≤ (blen (clampP n - 1)) ∧ 2 ^ i ≤ 65536 ∧ tri ((blen (clampP n - 1)) - i) ≤ 136 ∧ ds = [] ∧ σ 3 = .int .i64 ((((pad n) : Nat) : Int)) ∧ σ 4 = .int .i64 ((((tri ((blen (clampP n - 1)) - i)) : Nat) : Int)) ∧ σ 5 = .int .i64 (((((blen (clampP n - 1)) - i) : Nat) : Int)) ∧ σ 6 = .int .i64 ((((2 ^ i) : Nat) : Int)) ∧ Ent L []) (m0 := (blen (clampP n - 1))) ⟨(blen (clampP n - 1)), rfl, by omega, (by unfold pad at hp; exact hp), (tri_le (by omega)), rfl, rfl, (congrArg (Value.int .i64) (by first | omega | (rw [Nat.sub_self]; rfl) | exact congrArg (Nat.cast : Nat → Int) (tri_step _ _ (by omega) (by omega)))), (congrArg (Value.int .i64) (by first | omega | skip)), (congrArg (Value.int .i64) (by first | omega | rfl | exact congrArg (Nat.cast : Nat → Int) (half_pow _ (by omega)))), .nil⟩ ?_
    rintro m ds σ L ⟨i, hm_2, hf0_2, hf1_2, hf2_2, rfl, h3_2, h4_2, h5_2, h6_2, hE_2⟩
    refine wpS_ent hE_2 ?_; clear hE_2
    refine wpS_seq ?_
    refine wpS_seq ?_
    refine wpS_region ?_
    refine s_y (v := .int .i64 ((((2 ^ i) : Nat) : Int))) (y_move h6_2) rfl ?_
    refine s_y (v := .bool (decide ((1 : Nat) < (2 ^ i)))) (y_gtr (a := (((2 ^ i) : Nat) : Int)) (b := 1) (c := decide ((1 : Nat) < (2 ^ i))) rfl rfl (by simp only [decide_eq_decide]; omega)) rfl ?_
    refine wpL_nil ?_
    refine thenS_n ?_
    refine wpS_cond (t := decide ((1 : Nat) < (2 ^ i))) rfl (fun b3 => ?_) (fun b3 => ?_)
    · -- decide ((1 : Nat) < (2 ^ i)) true
      have p3 := of_decide_eq_true b3
      have hpos := pow_one_lt (i := i) (by omega)
      refine wpS_skip ?_
      refine thenS_n ?_
      refine wpS_seq ?_
      refine wpS_block ?_
      refine wpS_seq ?_
      refine wpS_region ?_
      refine s_y (v := .int .i64 (((((blen (clampP n - 1)) - i) : Nat) : Int))) (y_move h5_2) rfl ?_
      refine s_y (v := .int .i64 ((((((blen (clampP n - 1)) - i) + 1) : Nat) : Int))) (y_add (a := ((((blen (clampP n - 1)) - i) : Nat) : Int)) (b := 1) (c := (((((blen (clampP n - 1)) - i) + 1) : Nat) : Int)) rfl rfl (wI (by omega) (by omega) (by omega))) rfl ?_
      refine s_y (v := .int .i64 ((((((blen (clampP n - 1)) - i) + 1) : Nat) : Int))) (y_assign rfl) rfl ?_
      refine wpL_nil ?_
      refine thenS_n ?_
      refine wpS_region ?_
      refine s_y (v := .int .i64 ((((tri ((blen (clampP n - 1)) - i)) : Nat) : Int))) (y_move h4_2) rfl ?_
      refine s_y (v := .int .i64 ((((((blen (clampP n - 1)) - i) + 1) : Nat) : Int))) (y_move rfl) rfl ?_
      refine s_y (v := .int .i64 (((((tri ((blen (clampP n - 1)) - i)) + (((blen (clampP n - 1)) - i) + 1)) : Nat) : Int))) (y_add (a := (((tri ((blen (clampP n - 1)) - i)) : Nat) : Int)) (b := (((((blen (clampP n - 1)) - i) + 1) : Nat) : Int)) (c := ((((tri ((blen (clampP n - 1)) - i)) + (((blen (clampP n - 1)) - i) + 1)) : Nat) : Int)) rfl rfl (wI (by omega) (by omega) (by omega))) rfl ?_
      refine s_y (v := .int .i64 (((((tri ((blen (clampP n - 1)) - i)) + (((blen (clampP n - 1)) - i) + 1)) : Nat) : Int))) (y_assign rfl) rfl ?_
      refine wpL_nil ?_
      refine blockS_n ?_
      refine thenS_n ?_
      refine wpS_region ?_
      refine s_y (v := .int .i64 ((((2 ^ i) : Nat) : Int))) (y_move h6_2) rfl ?_
      refine s_y (v := .int .i64 (((((2 ^ i) / 2) : Nat) : Int))) (y_quo (a := (((2 ^ i) : Nat) : Int)) (b := 2) (c := ((((2 ^ i) / 2) : Nat) : Int)) rfl rfl (by omega) (n_quo _ 2 (by omega) (by omega))) rfl ?_
      refine s_y (v := .int .i64 (((((2 ^ i) / 2) : Nat) : Int))) (y_assign rfl) rfl ?_
      refine wpL_nil ?_
      refine thenS_n ?_
      exact ⟨_, by omega, ⟨(i - 1), rfl, by omega, (by rw [← half_pow _ hpos]; omega), (tri_le (by omega)), rfl, h3_2, (congrArg (Value.int .i64) (by first | omega | (rw [Nat.sub_self]; rfl) | exact congrArg (Nat.cast : Nat → Int) (tri_step _ _ (by omega) (by omega)))), (congrArg (Value.int .i64) (by first | omega | skip)), (congrArg (Value.int .i64) (by first | omega | rfl | exact congrArg (Nat.cast : Nat → Int) (half_pow _ (by omega)))), .nil⟩⟩
    · -- decide ((1 : Nat) < (2 ^ i)) false
      have p3 := of_decide_eq_false b3
      refine wpS_exit ?_
      refine thenS_x ?_
      refine thenS_x ?_
      refine blockS_h ?_
      refine thenS_n ?_
      refine wpS_seq ?_
      refine wpS_region ?_
      refine s_y (v := .int .i64 ((((pad n) : Nat) : Int))) (y_move h3_2) rfl ?_
      refine s_y (v := .int .i64 ((((rnd ((((pad n) : Nat) : Int))) : Nat) : Int))) (y_call (args := #[.int .i64 ((((pad n) : Nat) : Int))]) (v := .int .i64 ((((rnd ((((pad n) : Nat) : Int))) : Nat) : Int))) Try.call52 (ev1 rfl) (fun w hs => rounds_c ((((pad n) : Nat) : Int)) (by omega) (by omega) w)) rfl ?_
      refine s_y (v := .int .i64 ((((tri ((blen (clampP n - 1)) - i)) : Nat) : Int))) (y_move h4_2) rfl ?_
      refine s_y (v := .bool (decide ((rnd ((((pad n) : Nat) : Int))) = (tri ((blen (clampP n - 1)) - i))))) (y_eql (a := (((rnd ((((pad n) : Nat) : Int))) : Nat) : Int)) (b := (((tri ((blen (clampP n - 1)) - i)) : Nat) : Int)) (c := decide ((rnd ((((pad n) : Nat) : Int))) = (tri ((blen (clampP n - 1)) - i)))) rfl rfl (by simp only [decide_eq_decide]; omega)) rfl ?_
      refine s_y (v := .bool (decide ((rnd ((((pad n) : Nat) : Int))) = (tri ((blen (clampP n - 1)) - i))))) (y_assign rfl) rfl ?_
      refine wpL_nil ?_
      refine thenS_n ?_
      refine wpS_ret ?_
      refine fin1 (v := .bool (decide ((rnd ((((pad n) : Nat) : Int))) = (tri ((blen (clampP n - 1)) - i))))) (.inr rfl) .nil Try.results6 rfl ?_
      exact fun w' hs => ⟨congrArg (fun b => Ending.returned (Value.bool b)) (decide_eq_true (pd6 n i (by omega))), hs⟩
  · -- decide ((1 : Nat) < (pad n)) False
    have p1 := of_decide_eq_false b1
    refine s_no rfl rfl rfl rfl (b' := decide ((1 : Nat) < (pad n))) rfl b1 ?_
    refine s_no rfl rfl rfl rfl (b' := decide ((1 : Nat) < (pad n))) rfl b1 ?_
    refine s_no rfl rfl rfl rfl (b' := decide ((1 : Nat) < (pad n))) rfl b1 ?_
    refine s_no rfl rfl rfl rfl (b' := decide ((1 : Nat) < (pad n))) rfl b1 ?_
    refine s_gy (y_pickF (b := decide ((1 : Nat) < (pad n))) (v := .bool false) rfl b1 rfl) rfl rfl rfl rfl (b' := decide (((((pad n) : Nat) : Int) : Int) < (min n 65536))) rfl (decide_eq_false (pd4 n)) ?_
    refine s_y (v := .bool false) (y_pickF (b := decide (((((pad n) : Nat) : Int) : Int) < (min n 65536))) (v := .bool false) rfl (decide_eq_false (pd4 n)) rfl) rfl ?_
    refine wpL_nil ?_
    refine thenS_n ?_
    refine wpS_cond_f rfl ?_
    refine wpS_skip ?_
    refine thenS_n ?_
    refine wpS_seq ?_
    refine wpS_region ?_
    refine s_y (v := .int .i64 0) (y_assign rfl) rfl ?_
    refine wpL_nil ?_
    refine thenS_n ?_
    refine wpS_seq ?_
    refine wpS_region ?_
    refine s_y (v := .int .i64 0) (y_assign rfl) rfl ?_
    refine wpL_nil ?_
    refine thenS_n ?_
    refine wpS_seq ?_
    refine wpS_seq ?_
    refine wpS_region ?_
    refine s_y (v := .int .i64 ((((pad n) : Nat) : Int))) (y_move rfl) rfl ?_
    refine s_y (v := .int .i64 ((((pad n) : Nat) : Int))) (y_assign rfl) rfl ?_
    refine wpL_nil ?_
    refine thenS_n ?_
    refine wpS_block ?_
    refine wpS_loop (fun m ds σ L => ∃ i : Nat, m = i ∧ i ≤ (blen (clampP n - 1)) ∧ 2 ^ i ≤ 65536 ∧ tri ((blen (clampP n - 1)) - i) ≤ 136 ∧ ds = [] ∧ σ 3 = .int .i64 ((((pad n) : Nat) : Int)) ∧ σ 4 = .int .i64 ((((tri ((blen (clampP n - 1)) - i)) : Nat) : Int)) ∧ σ 5 = .int .i64 (((((blen (clampP n - 1)) - i) : Nat) : Int)) ∧ σ 6 = .int .i64 ((((2 ^ i) : Nat) : Int)) ∧ Ent L []) (m0 := (blen (clampP n - 1))) ⟨(blen (clampP n - 1)), rfl, by omega, (by unfold pad at hp; exact hp), (tri_le (by omega)), rfl, rfl, (congrArg (Value.int .i64) (by first | omega | (rw [Nat.sub_self]; rfl) | exact congrArg (Nat.cast : Nat → Int) (tri_step _ _ (by omega) (by omega)))), (congrArg (Value.int .i64) (by first | omega | skip)), (congrArg (Value.int .i64) (by first | omega | rfl | exact congrArg (Nat.cast : Nat → Int) (half_pow _ (by omega)))), .nil⟩ ?_
    rintro m ds σ L ⟨i, hm_4, hf0_4, hf1_4, hf2_4, rfl, h3_4, h4_4, h5_4, h6_4, hE_4⟩
    refine wpS_ent hE_4 ?_; clear hE_4
    refine wpS_seq ?_
    refine wpS_seq ?_
    refine wpS_region ?_
    refine s_y (v := .int .i64 ((((2 ^ i) : Nat) : Int))) (y_move h6_4) rfl ?_
    refine s_y (v := .bool (decide ((1 : Nat) < (2 ^ i)))) (y_gtr (a := (((2 ^ i) : Nat) : Int)) (b := 1) (c := decide ((1 : Nat) < (2 ^ i))) rfl rfl (by simp only [decide_eq_decide]; omega)) rfl ?_
    refine wpL_nil ?_
    refine thenS_n ?_
    refine wpS_cond (t := decide ((1 : Nat) < (2 ^ i))) rfl (fun b5 => ?_) (fun b5 => ?_)
    · -- decide ((1 : Nat) < (2 ^ i)) true
      have p5 := of_decide_eq_true b5
      have hpos := pow_one_lt (i := i) (by omega)
      refine wpS_skip ?_
      refine thenS_n ?_
      refine wpS_seq ?_
      refine wpS_block ?_
      refine wpS_seq ?_
      refine wpS_region ?_
      refine s_y (v := .int .i64 (((((blen (clampP n - 1)) - i) : Nat) : Int))) (y_move h5_4) rfl ?_
      refine s_y (v := .int .i64 ((((((blen (clampP n - 1)) - i) + 1) : Nat) : Int))) (y_add (a := ((((blen (clampP n - 1)) - i) : Nat) : Int)) (b := 1) (c := (((((blen (clampP n - 1)) - i) + 1) : Nat) : Int)) rfl rfl (wI (by omega) (by omega) (by omega))) rfl ?_
      refine s_y (v := .int .i64 ((((((blen (clampP n - 1)) - i) + 1) : Nat) : Int))) (y_assign rfl) rfl ?_
      refine wpL_nil ?_
      refine thenS_n ?_
      refine wpS_region ?_
      refine s_y (v := .int .i64 ((((tri ((blen (clampP n - 1)) - i)) : Nat) : Int))) (y_move h4_4) rfl ?_
      refine s_y (v := .int .i64 ((((((blen (clampP n - 1)) - i) + 1) : Nat) : Int))) (y_move rfl) rfl ?_
      refine s_y (v := .int .i64 (((((tri ((blen (clampP n - 1)) - i)) + (((blen (clampP n - 1)) - i) + 1)) : Nat) : Int))) (y_add (a := (((tri ((blen (clampP n - 1)) - i)) : Nat) : Int)) (b := (((((blen (clampP n - 1)) - i) + 1) : Nat) : Int)) (c := ((((tri ((blen (clampP n - 1)) - i)) + (((blen (clampP n - 1)) - i) + 1)) : Nat) : Int)) rfl rfl (wI (by omega) (by omega) (by omega))) rfl ?_
      refine s_y (v := .int .i64 (((((tri ((blen (clampP n - 1)) - i)) + (((blen (clampP n - 1)) - i) + 1)) : Nat) : Int))) (y_assign rfl) rfl ?_
      refine wpL_nil ?_
      refine blockS_n ?_
      refine thenS_n ?_
      refine wpS_region ?_
      refine s_y (v := .int .i64 ((((2 ^ i) : Nat) : Int))) (y_move h6_4) rfl ?_
      refine s_y (v := .int .i64 (((((2 ^ i) / 2) : Nat) : Int))) (y_quo (a := (((2 ^ i) : Nat) : Int)) (b := 2) (c := ((((2 ^ i) / 2) : Nat) : Int)) rfl rfl (by omega) (n_quo _ 2 (by omega) (by omega))) rfl ?_
      refine s_y (v := .int .i64 (((((2 ^ i) / 2) : Nat) : Int))) (y_assign rfl) rfl ?_
      refine wpL_nil ?_
      refine thenS_n ?_
      exact ⟨_, by omega, ⟨(i - 1), rfl, by omega, (by rw [← half_pow _ hpos]; omega), (tri_le (by omega)), rfl, h3_4, (congrArg (Value.int .i64) (by first | omega | (rw [Nat.sub_self]; rfl) | exact congrArg (Nat.cast : Nat → Int) (tri_step _ _ (by omega) (by omega)))), (congrArg (Value.int .i64) (by first | omega | skip)), (congrArg (Value.int .i64) (by first | omega | rfl | exact congrArg (Nat.cast : Nat → Int) (half_pow _ (by omega)))), .nil⟩⟩
    · -- decide ((1 : Nat) < (2 ^ i)) false
      have p5 := of_decide_eq_false b5
      refine wpS_exit ?_
      refine thenS_x ?_
      refine thenS_x ?_
      refine blockS_h ?_
      refine thenS_n ?_
      refine wpS_seq ?_
      refine wpS_region ?_
      refine s_y (v := .int .i64 ((((pad n) : Nat) : Int))) (y_move h3_4) rfl ?_
      refine s_y (v := .int .i64 ((((rnd ((((pad n) : Nat) : Int))) : Nat) : Int))) (y_call (args := #[.int .i64 ((((pad n) : Nat) : Int))]) (v := .int .i64 ((((rnd ((((pad n) : Nat) : Int))) : Nat) : Int))) Try.call52 (ev1 rfl) (fun w hs => rounds_c ((((pad n) : Nat) : Int)) (by omega) (by omega) w)) rfl ?_
      refine s_y (v := .int .i64 ((((tri ((blen (clampP n - 1)) - i)) : Nat) : Int))) (y_move h4_4) rfl ?_
      refine s_y (v := .bool (decide ((rnd ((((pad n) : Nat) : Int))) = (tri ((blen (clampP n - 1)) - i))))) (y_eql (a := (((rnd ((((pad n) : Nat) : Int))) : Nat) : Int)) (b := (((tri ((blen (clampP n - 1)) - i)) : Nat) : Int)) (c := decide ((rnd ((((pad n) : Nat) : Int))) = (tri ((blen (clampP n - 1)) - i)))) rfl rfl (by simp only [decide_eq_decide]; omega)) rfl ?_
      refine s_y (v := .bool (decide ((rnd ((((pad n) : Nat) : Int))) = (tri ((blen (clampP n - 1)) - i))))) (y_assign rfl) rfl ?_
      refine wpL_nil ?_
      refine thenS_n ?_
      refine wpS_ret ?_
      refine fin1 (v := .bool (decide ((rnd ((((pad n) : Nat) : Int))) = (tri ((blen (clampP n - 1)) - i))))) (.inr rfl) .nil Try.results6 rfl ?_
      exact fun w' hs => ⟨congrArg (fun b => Ending.returned (Value.bool b)) (decide_eq_true (pd6 n i (by omega))), hs⟩

end Go.Proofs.Ytldkjjnjdjfipaa
