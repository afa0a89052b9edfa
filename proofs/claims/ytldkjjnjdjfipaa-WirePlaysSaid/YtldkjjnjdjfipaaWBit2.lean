/- One step of the bitonic network, walked. -/
import Derived.Test.YtldkjjnjdjfipaaWBit1
namespace Go.Proofs.Ytldkjjnjdjfipaa
open Go Go.RowKit
set_option linter.unusedVariables false
set_option linter.unusedSimpArgs false
set_option maxRecDepth 10000

def stpA (K s a : Nat) : Nat × Nat := if s ≤ K then if a < s then (s, s - a) else stpA K (s + 1) (a - s) else (0, 0)
termination_by K + 1 - s
theorem stpA_hit {K s a : Nat} (h : s ≤ K) (h2 : a < s) : stpA K s a = (s, s - a) := by rw [stpA, if_pos h, if_pos h2]
theorem stpA_out {K s a : Nat} (h : ¬ s ≤ K) : stpA K s a = (0, 0) := by rw [stpA, if_neg h]
theorem stpA_next {K s a : Nat} (h : s ≤ K) (h2 : ¬ a < s) : stpA K s a = stpA K (s + 1) (a - s) := by rw [stpA, if_pos h, if_neg h2]
def stp (n r : Int) : Nat × Nat := if r < 0 then (0, 0) else stpA (stgN n) 1 r.toNat
theorem stp_at {n r : Int} (h : ¬ r < 0) : stp n r = stpA (stgN n) 1 r.toNat := by unfold stp; rw [if_neg h]
theorem stpA_bd (K : Nat) : ∀ s a, 1 ≤ s → (stpA K s a).1 ≤ K ∧ (stpA K s a).2 ≤ (stpA K s a).1 ∧ (0 < (stpA K s a).1 → 1 ≤ (stpA K s a).2) := by
  intro s a hs
  induction s, a using stpA.induct (K := K) with
  | case1 s a h h2 => rw [stpA_hit h h2]; simp; omega
  | case2 s a h h2 ih => rw [stpA_next h h2]; exact ih (by omega)
  | case3 s a h => rw [stpA_out h]; simp
theorem stp_bd (n r : Int) : (stp n r).1 ≤ 16 ∧ (stp n r).2 ≤ (stp n r).1 ∧ (0 < (stp n r).1 → 1 ≤ (stp n r).2) := by
  by_cases h : r < 0
  · unfold stp; rw [if_pos h]; simp
  · rw [stp_at h]
    have h1 := stpA_bd (stgN n) 1 r.toNat (by omega)
    have h2 := stgN_le n
    omega
theorem stgN_eq (n : Int) : ((stgN n : Nat) : Int) = max (stg n) 0 := by unfold stgN; omega
def up (n r a : Int) : Bool := decide (0 < (stp n r).1) && (decide (0 ≤ a) && (decide (a < n) && (decide (a.toNat / 2 ^ ((stp n r).2 - 1) % 2 = 0) && decide (a.toNat / 2 ^ (stp n r).1 % 2 = 0))))
def far (n r : Int) : Nat := if 0 < (stp n r).1 then 2 ^ ((stp n r).2 - 1) else 0

theorem step_c (n r : Int) (n1 : -9223372036854775808 ≤ n) (n2 : n < 9223372036854775808) (r1 : -9223372036854775808 ≤ r) (r2 : r < 9223372036854775808) (w : World) : Pure Try.prog 158 #[.int .i64 n, .int .i64 r] w (.tuple #[.int .i64 ((((stp n r).1 : Nat) : Int)), .int .i64 ((((stp n r).2 : Nat) : Int)), .bool (decide (0 < (stp n r).1))]) := by
  refine calls_S (n := 34) (σ0 := (upd (upd fr0 0 (.int .i64 n)) 1 (.int .i64 r))) (D := []) (A := []) Try.func158 rfl Try.ntmps158 rfl (a2_fr _ _) (SH.start w) ?_
  have hN := stgN_eq n
  have hK := stgN_le n
  have hb := stg_bd n
  refine wpS_seq ?_
  refine wpS_region ?_
  refine s_y (v := .int .i64 0) (y_assign rfl) rfl ?_
  refine s_y (v := .int .i64 0) (y_assign rfl) rfl ?_
  refine s_y (v := .bool false) (y_assign rfl) rfl ?_
  refine wpL_nil ?_
  refine thenS_n ?_
  refine wpS_scope ?_
  refine wpS_seq ?_
  refine wpS_seq ?_
  refine wpS_region ?_
  refine s_y (v := .int .i64 r) (y_move rfl) rfl ?_
  refine s_y (v := .bool (decide ((r : Int) < 0))) (y_lss (a := r) (b := 0) rfl rfl rfl) rfl ?_
  refine wpL_nil ?_
  refine thenS_n ?_
  refine wpS_cond (t := decide ((r : Int) < 0)) rfl (fun b1 => ?_) (fun b1 => ?_)
  · -- decide ((r : Int) < 0) true
    have p1 := of_decide_eq_true b1
    refine wpS_seq ?_
    refine wpS_region ?_
    refine s_y (v := .int .i64 0) (y_assign rfl) rfl ?_
    refine s_y (v := .int .i64 0) (y_assign rfl) rfl ?_
    refine s_y (v := .bool false) (y_assign rfl) rfl ?_
    refine wpL_nil ?_
    refine thenS_n ?_
    refine wpS_ret ?_
    refine thenS_r ?_
    refine scopeS_r ?_
    refine fin3 (M := []) (.inr rfl) (.nil) Try.results158 (rvT (v := .int .i64 0) rfl) (rvT (v := .int .i64 0) rfl) (rvT (v := .bool false) rfl) ?_
    refine fun w' hs => ⟨?_, hs⟩
    have e : stp n r = (0, 0) := by unfold stp; rw [if_pos (by omega)]
    rw [e]; first | rfl | (simp only [Ending.returned.injEq, Value.tuple.injEq]; congr 2; simp; omega)
  · -- decide ((r : Int) < 0) false
    have p1 := of_decide_eq_false b1
    refine wpS_skip ?_
    refine thenS_n ?_
    refine wpS_seq ?_
    refine wpS_region ?_
    refine s_y (v := .int .i64 r) (y_move rfl) rfl ?_
    refine s_y (v := .int .i64 r) (y_assign rfl) rfl ?_
    refine wpL_nil ?_
    refine thenS_n ?_
    refine wpS_seq ?_
    refine wpS_region ?_
    refine s_y (v := .int .i64 0) (y_assign rfl) rfl ?_
    refine s_y (v := .int .i64 0) (y_assign rfl) rfl ?_
    refine wpL_nil ?_
    refine thenS_n ?_
    refine wpS_seq ?_
    refine wpS_label ?_
    refine thenS_n ?_
    refine wpS_seq ?_
    refine wpS_seq ?_
    refine wpS_region ?_
    refine s_y (v := .int .i64 1) (y_assign rfl) rfl ?_
    refine wpL_nil ?_
    refine thenS_n ?_
    refine wpS_block ?_
    refine wpS_loop (fun m ds σ L => ∃ s : Nat, ∃ a : Nat, m = stgN n + 1 - s ∧ 1 ≤ s ∧ s ≤ stgN n + 1 ∧ a ≤ r.toNat ∧ stpA (stgN n) s a = stpA (stgN n) 1 r.toNat ∧ ds = [] ∧ σ 0 = .int .i64 n ∧ σ 7 = .int .i64 (((a : Nat) : Int)) ∧ σ 8 = .int .i64 0 ∧ σ 9 = .int .i64 0 ∧ σ 10 = .int .i64 (((s : Nat) : Int)) ∧ Ent L []) (m0 := stgN n + 1 - 1) ⟨1, r.toNat, rfl, by omega, by omega, by omega, rfl, rfl, rfl, (congrArg (Value.int .i64) (by omega)), rfl, rfl, rfl, .nil⟩ ?_
    rintro m ds σ L ⟨s, a, hm_2, hf0_2, hf1_2, hf2_2, hf3_2, rfl, h0_2, h7_2, h8_2, h9_2, h10_2, hE_2⟩
    refine wpS_ent hE_2 ?_; clear hE_2
    refine wpS_seq ?_
    refine wpS_seq ?_
    refine wpS_region ?_
    refine s_y (v := .int .i64 (((s : Nat) : Int))) (y_move h10_2) rfl ?_
    refine s_y (v := .int .i64 n) (y_move h0_2) rfl ?_
    refine s_y (v := .int .i64 (stg n)) (y_call (args := #[.int .i64 n]) (v := .int .i64 (stg n)) Try.call151 (ev1 rfl) (fun w hs => stages_c n (by omega) (by omega) w)) rfl ?_
    refine s_y (v := .bool (decide ((((s : Nat) : Int) : Int) ≤ (stg n)))) (y_leq (a := ((s : Nat) : Int)) (b := stg n) rfl rfl rfl) rfl ?_
    refine wpL_nil ?_
    refine thenS_n ?_
    refine wpS_cond (t := decide ((((s : Nat) : Int) : Int) ≤ (stg n))) rfl (fun b3 => ?_) (fun b3 => ?_)
    · -- decide ((((s : Nat) : Int) : Int) ≤ (stg n)) true
      have p3 := of_decide_eq_true b3
      refine wpS_skip ?_
      refine thenS_n ?_
      refine wpS_seq ?_
      refine wpS_block ?_
      refine wpS_seq ?_
      refine wpS_seq ?_
      refine wpS_region ?_
      refine s_y (v := .int .i64 (((a : Nat) : Int))) (y_move h7_2) rfl ?_
      refine s_y (v := .int .i64 (((s : Nat) : Int))) (y_move h10_2) rfl ?_
      refine s_y (v := .bool (decide (a < s))) (y_lss (a := ((a : Nat) : Int)) (b := ((s : Nat) : Int)) (c := decide (a < s)) rfl rfl (by simp only [decide_eq_decide]; omega)) rfl ?_
      refine wpL_nil ?_
      refine thenS_n ?_
      refine wpS_cond (t := decide (a < s)) rfl (fun b4 => ?_) (fun b4 => ?_)
      · -- decide (a < s) true
        have p4 := of_decide_eq_true b4
        refine wpS_seq ?_
        refine wpS_region ?_
        refine s_y (v := .int .i64 (((s : Nat) : Int))) (y_move h10_2) rfl ?_
        refine s_y (v := .int .i64 (((s : Nat) : Int))) (y_move h10_2) rfl ?_
        refine s_y (v := .int .i64 (((a : Nat) : Int))) (y_move h7_2) rfl ?_
        refine s_y (v := .int .i64 (((s : Nat) : Int) - ((a : Nat) : Int))) (y_sub (a := ((s : Nat) : Int)) (b := ((a : Nat) : Int)) (c := ((s : Nat) : Int) - ((a : Nat) : Int)) rfl rfl (wI rfl (by omega) (by omega))) rfl ?_
        refine s_y (v := .int .i64 (((s : Nat) : Int))) (y_assign rfl) rfl ?_
        refine s_y (v := .int .i64 (((s : Nat) : Int) - ((a : Nat) : Int))) (y_assign rfl) rfl ?_
        refine wpL_nil ?_
        refine thenS_n ?_
        refine wpS_exit ?_
        refine thenS_x ?_
        refine blockS_m rfl ?_
        refine thenS_x ?_
        refine thenS_x ?_
        refine blockS_h ?_
        refine thenS_n ?_
        refine wpS_seq ?_
        refine wpS_region ?_
        refine s_y (v := .int .i64 (((s : Nat) : Int))) (y_move rfl) rfl ?_
        refine s_y (v := .int .i64 (((s : Nat) : Int) - ((a : Nat) : Int))) (y_move rfl) rfl ?_
        refine s_y (v := .int .i64 (((s : Nat) : Int))) (y_move rfl) rfl ?_
        refine s_y (v := .bool (decide ((0 : Nat) < s))) (y_gtr (a := ((s : Nat) : Int)) (b := 0) (c := decide ((0 : Nat) < s)) rfl rfl (by simp only [decide_eq_decide]; omega)) rfl ?_
        refine s_y (v := .int .i64 (((s : Nat) : Int))) (y_assign rfl) rfl ?_
        refine s_y (v := .int .i64 (((s : Nat) : Int) - ((a : Nat) : Int))) (y_assign rfl) rfl ?_
        refine s_y (v := .bool (decide ((0 : Nat) < s))) (y_assign rfl) rfl ?_
        refine wpL_nil ?_
        refine thenS_n ?_
        refine wpS_ret ?_
        refine scopeS_r ?_
        refine fin3 (M := []) (.inr rfl) (.nil) Try.results158 (rvT (v := .int .i64 (((s : Nat) : Int))) rfl) (rvT (v := .int .i64 (((s : Nat) : Int) - ((a : Nat) : Int))) rfl) (rvT (v := .bool (decide ((0 : Nat) < s))) rfl) ?_
        refine fun w' hs => ⟨?_, hs⟩
        have e : stp n r = (s, s - a) := by rw [stp_at (by omega), ← (by assumption : stpA (stgN n) s a = stpA (stgN n) 1 r.toNat), stpA_hit (by omega) (by omega)]
        rw [e]; first | rfl | (simp only [Ending.returned.injEq, Value.tuple.injEq]; congr 2; simp; omega)
      · -- decide (a < s) false
        have p4 := of_decide_eq_false b4
        refine wpS_skip ?_
        refine thenS_n ?_
        refine wpS_region ?_
        refine s_y (v := .int .i64 (((a : Nat) : Int))) (y_move h7_2) rfl ?_
        refine s_y (v := .int .i64 (((s : Nat) : Int))) (y_move h10_2) rfl ?_
        refine s_y (v := .int .i64 (((a : Nat) : Int) - ((s : Nat) : Int))) (y_sub (a := ((a : Nat) : Int)) (b := ((s : Nat) : Int)) (c := ((a : Nat) : Int) - ((s : Nat) : Int)) rfl rfl (wI rfl (by omega) (by omega))) rfl ?_
        refine s_y (v := .int .i64 (((a : Nat) : Int) - ((s : Nat) : Int))) (y_assign rfl) rfl ?_
        refine wpL_nil ?_
        refine blockS_n ?_
        refine thenS_n ?_
        refine wpS_region ?_
        refine s_y (v := .int .i64 (((s : Nat) : Int))) (y_move h10_2) rfl ?_
        refine s_y (v := .int .i64 ((((s + 1) : Nat) : Int))) (y_add (a := ((s : Nat) : Int)) (b := 1) (c := (((s + 1) : Nat) : Int)) rfl rfl (wI (by omega) (by omega) (by omega))) rfl ?_
        refine s_y (v := .int .i64 ((((s + 1) : Nat) : Int))) (y_assign rfl) rfl ?_
        refine wpL_nil ?_
        refine thenS_n ?_
        exact ⟨_, by omega, ⟨(s + 1), (a - s), rfl, by omega, by omega, by omega, (by rw [← stpA_next (by omega) (by omega)]; assumption), rfl, h0_2, (congrArg (Value.int .i64) (by omega)), h8_2, h9_2, rfl, .nil⟩⟩
    · -- decide ((((s : Nat) : Int) : Int) ≤ (stg n)) false
      have p3 := of_decide_eq_false b3
      refine wpS_exit ?_
      refine thenS_x ?_
      refine thenS_x ?_
      refine blockS_h ?_
      refine thenS_n ?_
      refine wpS_seq ?_
      refine wpS_region ?_
      refine s_y (v := .int .i64 0) (y_move h8_2) rfl ?_
      refine s_y (v := .int .i64 0) (y_move h9_2) rfl ?_
      refine s_y (v := .int .i64 0) (y_move h8_2) rfl ?_
      refine s_y (v := .bool false) (y_gtr (a := 0) (b := 0) rfl rfl (by decide)) rfl ?_
      refine s_y (v := .int .i64 0) (y_assign rfl) rfl ?_
      refine s_y (v := .int .i64 0) (y_assign rfl) rfl ?_
      refine s_y (v := .bool false) (y_assign rfl) rfl ?_
      refine wpL_nil ?_
      refine thenS_n ?_
      refine wpS_ret ?_
      refine scopeS_r ?_
      refine fin3 (M := []) (.inr rfl) (.nil) Try.results158 (rvT (v := .int .i64 0) rfl) (rvT (v := .int .i64 0) rfl) (rvT (v := .bool false) rfl) ?_
      refine fun w' hs => ⟨?_, hs⟩
      have e : stp n r = (0, 0) := by rw [stp_at (by omega), ← (by assumption : stpA (stgN n) s a = stpA (stgN n) 1 r.toNat), stpA_out (by omega)]
      rw [e]; first | rfl | (simp only [Ending.returned.injEq, Value.tuple.injEq]; congr 2; simp; omega)

theorem up_c (n r a : Int) (n1 : -9223372036854775808 ≤ n) (n2 : n < 9223372036854775808) (r1 : -9223372036854775808 ≤ r) (r2 : r < 9223372036854775808) (a1 : -9223372036854775808 ≤ a) (a2 : a < 9223372036854775808) (w : World) : Pure Try.prog 59 #[.int .i64 n, .int .i64 r, .int .i64 a] w (.bool ((up n r a))) := by
  refine calls_S (n := 42) (σ0 := (upd (upd (upd fr0 0 (.int .i64 n)) 1 (.int .i64 r)) 2 (.int .i64 a))) (D := []) (A := []) Try.func59 rfl Try.ntmps59 rfl (a3_fr _ _ _) (SH.start w) ?_
  have hb := stp_bd n r
  refine wpS_seq ?_
  refine wpS_region ?_
  refine s_y (v := .bool false) (y_assign rfl) rfl ?_
  refine wpL_nil ?_
  refine thenS_n ?_
  refine wpS_seq ?_
  refine wpS_region ?_
  refine s_y (v := .int .i64 n) (y_move rfl) rfl ?_
  refine s_y (v := .int .i64 r) (y_move rfl) rfl ?_
  refine s_y (v := .tuple #[.int .i64 ((((stp n r).1 : Nat) : Int)), .int .i64 ((((stp n r).2 : Nat) : Int)), .bool (decide (0 < (stp n r).1))]) (y_call (args := #[.int .i64 n, .int .i64 r]) (v := .tuple #[.int .i64 ((((stp n r).1 : Nat) : Int)), .int .i64 ((((stp n r).2 : Nat) : Int)), .bool (decide (0 < (stp n r).1))]) Try.call158 (ev2 rfl rfl) (fun w hs => step_c n r (by omega) (by omega) (by omega) (by omega) w)) rfl ?_
  refine s_y (v := .tuple #[.int .i64 ((((stp n r).1 : Nat) : Int)), .int .i64 ((((stp n r).2 : Nat) : Int)), .bool (decide (0 < (stp n r).1))]) (y_move rfl) rfl ?_
  refine s_y (v := .int .i64 ((((stp n r).1 : Nat) : Int))) (y_extract (v := .int .i64 ((((stp n r).1 : Nat) : Int))) rfl rfl) rfl ?_
  refine s_y (v := .int .i64 ((((stp n r).2 : Nat) : Int))) (y_extract (v := .int .i64 ((((stp n r).2 : Nat) : Int))) rfl rfl) rfl ?_
  refine s_y (v := .bool (decide (0 < (stp n r).1))) (y_extract (v := .bool (decide (0 < (stp n r).1))) rfl rfl) rfl ?_
  refine s_y (v := .int .i64 ((((stp n r).1 : Nat) : Int))) (y_assign rfl) rfl ?_
  refine s_y (v := .int .i64 ((((stp n r).2 : Nat) : Int))) (y_assign rfl) rfl ?_
  refine s_y (v := .bool (decide (0 < (stp n r).1))) (y_assign rfl) rfl ?_
  refine wpL_nil ?_
  refine thenS_n ?_
  refine wpS_seq ?_
  refine wpS_region ?_
  refine s_y (v := .bool (decide (0 < (stp n r).1))) (y_move rfl) rfl ?_
  refine s_y (v := .bool (decide (0 < (stp n r).1))) (y_move rfl) rfl ?_
  rcases Bool.eq_false_or_eq_true (decide (0 < (stp n r).1)) with b1 | b1
  · -- decide (0 < (stp n r).1) True
    have p1 := of_decide_eq_true b1
    refine s_gy (y_move rfl) rfl rfl rfl rfl (b' := decide (0 < (stp n r).1)) rfl b1 ?_
    refine s_gy (y_geq (a := a) (b := 0) rfl rfl rfl) rfl rfl rfl rfl (b' := decide (0 < (stp n r).1)) rfl b1 ?_
    refine s_y (v := .bool (decide ((0 : Int) ≤ a))) (y_pickT (b := decide (0 < (stp n r).1)) (v := .bool (decide ((0 : Int) ≤ a))) rfl b1 rfl) rfl ?_
    refine s_y (v := .bool (decide ((0 : Int) ≤ a))) (y_move rfl) rfl ?_
    rcases Bool.eq_false_or_eq_true (decide ((0 : Int) ≤ a)) with b2 | b2
    · -- decide ((0 : Int) ≤ a) True
      have p2 := of_decide_eq_true b2
      refine s_gy (y_move rfl) rfl rfl rfl rfl (b' := decide ((0 : Int) ≤ a)) rfl b2 ?_
      refine s_gy (y_move rfl) rfl rfl rfl rfl (b' := decide ((0 : Int) ≤ a)) rfl b2 ?_
      refine s_gy (y_lss (a := a) (b := n) rfl rfl rfl) rfl rfl rfl rfl (b' := decide ((0 : Int) ≤ a)) rfl b2 ?_
      refine s_y (v := .bool (decide ((a : Int) < n))) (y_pickT (b := decide ((0 : Int) ≤ a)) (v := .bool (decide ((a : Int) < n))) rfl b2 rfl) rfl ?_
      refine s_y (v := .bool (decide ((a : Int) < n))) (y_move rfl) rfl ?_
      rcases Bool.eq_false_or_eq_true (decide ((a : Int) < n)) with b3 | b3
      · -- decide ((a : Int) < n) True
        have p3 := of_decide_eq_true b3
        refine s_gy (y_move rfl) rfl rfl rfl rfl (b' := decide ((a : Int) < n)) rfl b3 ?_
        refine s_gy (y_move rfl) rfl rfl rfl rfl (b' := decide ((a : Int) < n)) rfl b3 ?_
        refine s_gy (y_sub (a := (((stp n r).2 : Nat) : Int)) (b := 1) (c := ((((stp n r).2 - 1) : Nat) : Int)) rfl rfl (wI (by omega) (by omega) (by omega))) rfl rfl rfl rfl (b' := decide ((a : Int) < n)) rfl b3 ?_
        refine s_gy (y_shr (a := a) (b := ((((stp n r).2 - 1) : Nat) : Int)) (c := ((((a).toNat / 2 ^ ((stp n r).2 - 1)) : Nat) : Int)) rfl rfl (by omega) (zs_shr (by decide) (by omega) (by omega) (by omega))) rfl rfl rfl rfl (b' := decide ((a : Int) < n)) rfl b3 ?_
        refine s_gy (y_and (a := ((((a).toNat / 2 ^ ((stp n r).2 - 1)) : Nat) : Int)) (b := 1) (c := (((((a).toNat / 2 ^ ((stp n r).2 - 1)) % 2) : Nat) : Int)) rfl rfl (zi_and1 ((((a).toNat / 2 ^ ((stp n r).2 - 1)) : Nat) : Int) (Int.natCast_nonneg _))) rfl rfl rfl rfl (b' := decide ((a : Int) < n)) rfl b3 ?_
        refine s_gy (y_eql (a := (((((a).toNat / 2 ^ ((stp n r).2 - 1)) % 2) : Nat) : Int)) (b := 0) (c := decide (((((a).toNat / 2 ^ ((stp n r).2 - 1)) % 2) : Nat) = 0)) rfl rfl (by simp only [decide_eq_decide]; omega)) rfl rfl rfl rfl (b' := decide ((a : Int) < n)) rfl b3 ?_
        refine s_y (v := .bool (decide (((((a).toNat / 2 ^ ((stp n r).2 - 1)) % 2) : Nat) = 0))) (y_pickT (b := decide ((a : Int) < n)) (v := .bool (decide (((((a).toNat / 2 ^ ((stp n r).2 - 1)) % 2) : Nat) = 0))) rfl b3 rfl) rfl ?_
        refine s_y (v := .bool (decide (((((a).toNat / 2 ^ ((stp n r).2 - 1)) % 2) : Nat) = 0))) (y_move rfl) rfl ?_
        rcases Bool.eq_false_or_eq_true (decide (((((a).toNat / 2 ^ ((stp n r).2 - 1)) % 2) : Nat) = 0)) with b4 | b4
        · -- decide (((((a).toNat / 2 ^ ((stp n r).2 - 1)) % 2) : Nat) = 0) True
          have p4 := of_decide_eq_true b4
          refine s_gy (y_move rfl) rfl rfl rfl rfl (b' := decide (((((a).toNat / 2 ^ ((stp n r).2 - 1)) % 2) : Nat) = 0)) rfl b4 ?_
          refine s_gy (y_move rfl) rfl rfl rfl rfl (b' := decide (((((a).toNat / 2 ^ ((stp n r).2 - 1)) % 2) : Nat) = 0)) rfl b4 ?_
          refine s_gy (y_shr (a := a) (b := (((stp n r).1 : Nat) : Int)) (c := ((((a).toNat / 2 ^ (stp n r).1) : Nat) : Int)) rfl rfl (by omega) (zs_shr (by decide) (by omega) (by omega) (by omega))) rfl rfl rfl rfl (b' := decide (((((a).toNat / 2 ^ ((stp n r).2 - 1)) % 2) : Nat) = 0)) rfl b4 ?_
          refine s_gy (y_and (a := ((((a).toNat / 2 ^ (stp n r).1) : Nat) : Int)) (b := 1) (c := (((((a).toNat / 2 ^ (stp n r).1) % 2) : Nat) : Int)) rfl rfl (zi_and1 ((((a).toNat / 2 ^ (stp n r).1) : Nat) : Int) (Int.natCast_nonneg _))) rfl rfl rfl rfl (b' := decide (((((a).toNat / 2 ^ ((stp n r).2 - 1)) % 2) : Nat) = 0)) rfl b4 ?_
          refine s_gy (y_eql (a := (((((a).toNat / 2 ^ (stp n r).1) % 2) : Nat) : Int)) (b := 0) (c := decide (((((a).toNat / 2 ^ (stp n r).1) % 2) : Nat) = 0)) rfl rfl (by simp only [decide_eq_decide]; omega)) rfl rfl rfl rfl (b' := decide (((((a).toNat / 2 ^ ((stp n r).2 - 1)) % 2) : Nat) = 0)) rfl b4 ?_
          refine s_y (v := .bool (decide (((((a).toNat / 2 ^ (stp n r).1) % 2) : Nat) = 0))) (y_pickT (b := decide (((((a).toNat / 2 ^ ((stp n r).2 - 1)) % 2) : Nat) = 0)) (v := .bool (decide (((((a).toNat / 2 ^ (stp n r).1) % 2) : Nat) = 0))) rfl b4 rfl) rfl ?_
          refine s_y (v := .bool (decide (((((a).toNat / 2 ^ (stp n r).1) % 2) : Nat) = 0))) (y_assign rfl) rfl ?_
          refine wpL_nil ?_
          refine thenS_n ?_
          refine wpS_ret ?_
          refine fin1 (v := .bool (decide (((((a).toNat / 2 ^ (stp n r).1) % 2) : Nat) = 0))) (.inr rfl) .nil Try.results59 rfl ?_
          exact fun w' hs => ⟨(by unfold up; simp [*]), hs⟩
        · -- decide (((((a).toNat / 2 ^ ((stp n r).2 - 1)) % 2) : Nat) = 0) False
          have p4 := of_decide_eq_false b4
          refine s_no rfl rfl rfl rfl (b' := decide (((((a).toNat / 2 ^ ((stp n r).2 - 1)) % 2) : Nat) = 0)) rfl b4 ?_
          refine s_no rfl rfl rfl rfl (b' := decide (((((a).toNat / 2 ^ ((stp n r).2 - 1)) % 2) : Nat) = 0)) rfl b4 ?_
          refine s_no rfl rfl rfl rfl (b' := decide (((((a).toNat / 2 ^ ((stp n r).2 - 1)) % 2) : Nat) = 0)) rfl b4 ?_
          refine s_no rfl rfl rfl rfl (b' := decide (((((a).toNat / 2 ^ ((stp n r).2 - 1)) % 2) : Nat) = 0)) rfl b4 ?_
          refine s_no rfl rfl rfl rfl (b' := decide (((((a).toNat / 2 ^ ((stp n r).2 - 1)) % 2) : Nat) = 0)) rfl b4 ?_
          refine s_y (v := .bool false) (y_pickF (b := decide (((((a).toNat / 2 ^ ((stp n r).2 - 1)) % 2) : Nat) = 0)) (v := .bool false) rfl b4 rfl) rfl ?_
          refine s_y (v := .bool false) (y_assign rfl) rfl ?_
          refine wpL_nil ?_
          refine thenS_n ?_
          refine wpS_ret ?_
          refine fin1 (v := .bool false) (.inr rfl) .nil Try.results59 rfl ?_
          exact fun w' hs => ⟨(by unfold up; simp [*]), hs⟩
      · -- decide ((a : Int) < n) False
        have p3 := of_decide_eq_false b3
        refine s_no rfl rfl rfl rfl (b' := decide ((a : Int) < n)) rfl b3 ?_
        refine s_no rfl rfl rfl rfl (b' := decide ((a : Int) < n)) rfl b3 ?_
        refine s_no rfl rfl rfl rfl (b' := decide ((a : Int) < n)) rfl b3 ?_
        refine s_no rfl rfl rfl rfl (b' := decide ((a : Int) < n)) rfl b3 ?_
        refine s_no rfl rfl rfl rfl (b' := decide ((a : Int) < n)) rfl b3 ?_
        refine s_no rfl rfl rfl rfl (b' := decide ((a : Int) < n)) rfl b3 ?_
        refine s_y (v := .bool false) (y_pickF (b := decide ((a : Int) < n)) (v := .bool false) rfl b3 rfl) rfl ?_
        refine s_y (v := .bool false) (y_move rfl) rfl ?_
        refine s_no rfl rfl rfl rfl rfl rfl ?_
        refine s_no rfl rfl rfl rfl rfl rfl ?_
        refine s_no rfl rfl rfl rfl rfl rfl ?_
        refine s_no rfl rfl rfl rfl rfl rfl ?_
        refine s_no rfl rfl rfl rfl rfl rfl ?_
        refine s_y (v := .bool false) (y_pickF (v := .bool false) rfl rfl rfl) rfl ?_
        refine s_y (v := .bool false) (y_assign rfl) rfl ?_
        refine wpL_nil ?_
        refine thenS_n ?_
        refine wpS_ret ?_
        refine fin1 (v := .bool false) (.inr rfl) .nil Try.results59 rfl ?_
        exact fun w' hs => ⟨(by unfold up; simp [*]), hs⟩
    · -- decide ((0 : Int) ≤ a) False
      have p2 := of_decide_eq_false b2
      refine s_no rfl rfl rfl rfl (b' := decide ((0 : Int) ≤ a)) rfl b2 ?_
      refine s_no rfl rfl rfl rfl (b' := decide ((0 : Int) ≤ a)) rfl b2 ?_
      refine s_no rfl rfl rfl rfl (b' := decide ((0 : Int) ≤ a)) rfl b2 ?_
      refine s_y (v := .bool false) (y_pickF (b := decide ((0 : Int) ≤ a)) (v := .bool false) rfl b2 rfl) rfl ?_
      refine s_y (v := .bool false) (y_move rfl) rfl ?_
      refine s_no rfl rfl rfl rfl rfl rfl ?_
      refine s_no rfl rfl rfl rfl rfl rfl ?_
      refine s_no rfl rfl rfl rfl rfl rfl ?_
      refine s_no rfl rfl rfl rfl rfl rfl ?_
      refine s_no rfl rfl rfl rfl rfl rfl ?_
      refine s_no rfl rfl rfl rfl rfl rfl ?_
      refine s_y (v := .bool false) (y_pickF (v := .bool false) rfl rfl rfl) rfl ?_
      refine s_y (v := .bool false) (y_move rfl) rfl ?_
      refine s_no rfl rfl rfl rfl rfl rfl ?_
      refine s_no rfl rfl rfl rfl rfl rfl ?_
      refine s_no rfl rfl rfl rfl rfl rfl ?_
      refine s_no rfl rfl rfl rfl rfl rfl ?_
      refine s_no rfl rfl rfl rfl rfl rfl ?_
      refine s_y (v := .bool false) (y_pickF (v := .bool false) rfl rfl rfl) rfl ?_
      refine s_y (v := .bool false) (y_assign rfl) rfl ?_
      refine wpL_nil ?_
      refine thenS_n ?_
      refine wpS_ret ?_
      refine fin1 (v := .bool false) (.inr rfl) .nil Try.results59 rfl ?_
      exact fun w' hs => ⟨(by unfold up; simp [*]), hs⟩
  · -- decide (0 < (stp n r).1) False
    have p1 := of_decide_eq_false b1
    refine s_no rfl rfl rfl rfl (b' := decide (0 < (stp n r).1)) rfl b1 ?_
    refine s_no rfl rfl rfl rfl (b' := decide (0 < (stp n r).1)) rfl b1 ?_
    refine s_y (v := .bool false) (y_pickF (b := decide (0 < (stp n r).1)) (v := .bool false) rfl b1 rfl) rfl ?_
    refine s_y (v := .bool false) (y_move rfl) rfl ?_
    refine s_no rfl rfl rfl rfl rfl rfl ?_
    refine s_no rfl rfl rfl rfl rfl rfl ?_
    refine s_no rfl rfl rfl rfl rfl rfl ?_
    refine s_y (v := .bool false) (y_pickF (v := .bool false) rfl rfl rfl) rfl ?_
    refine s_y (v := .bool false) (y_move rfl) rfl ?_
    refine s_no rfl rfl rfl rfl rfl rfl ?_
    refine s_no rfl rfl rfl rfl rfl rfl ?_
    refine s_no rfl rfl rfl rfl rfl rfl ?_
    refine s_no rfl rfl rfl rfl rfl rfl ?_
    refine s_no rfl rfl rfl rfl rfl rfl ?_
    refine s_no rfl rfl rfl rfl rfl rfl ?_
    refine s_y (v := .bool false) (y_pickF (v := .bool false) rfl rfl rfl) rfl ?_
    refine s_y (v := .bool false) (y_move rfl) rfl ?_
    refine s_no rfl rfl rfl rfl rfl rfl ?_
    refine s_no rfl rfl rfl rfl rfl rfl ?_
    refine s_no rfl rfl rfl rfl rfl rfl ?_
    refine s_no rfl rfl rfl rfl rfl rfl ?_
    refine s_no rfl rfl rfl rfl rfl rfl ?_
    refine s_y (v := .bool false) (y_pickF (v := .bool false) rfl rfl rfl) rfl ?_
    refine s_y (v := .bool false) (y_assign rfl) rfl ?_
    refine wpL_nil ?_
    refine thenS_n ?_
    refine wpS_ret ?_
    refine fin1 (v := .bool false) (.inr rfl) .nil Try.results59 rfl ?_
    exact fun w' hs => ⟨(by unfold up; simp [*]), hs⟩

end Go.Proofs.Ytldkjjnjdjfipaa
