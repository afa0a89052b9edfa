/- BitonicWays, walked. -/
import Derived.Test.YtldkjjnjdjfipaaWNetW
namespace Go.Proofs.Ytldkjjnjdjfipaa
open Go Go.RowKit
set_option linter.unusedVariables false
set_option linter.unusedSimpArgs false
set_option maxRecDepth 10000
set_option maxHeartbeats 1000000

theorem bways_law (n q : Int) (n1 : -9223372036854775808 ≤ n) (n2 : n < 9223372036854775808) (q1 : -9223372036854775808 ≤ q) (q2 : q < 9223372036854775808) (w : World) : Pure Try.prog 10 #[.int .i64 n, .int .i64 q] w (.bool true) := by
  refine calls_S (n := 108) (σ0 := (upd (upd fr0 0 (.int .i64 n)) 1 (.int .i64 q))) (D := []) (A := []) Try.func10 rfl Try.ntmps10 rfl (a2_fr _ _) (SH.start w) ?_
  have hur : u64of n % 6 < 6 := Nat.mod_lt _ (by decide)
  refine wpS_seq ?_
  refine wpS_region ?_
  refine s_y (v := .bool false) (y_assign rfl) rfl ?_
  refine wpL_nil ?_
  refine thenS_n ?_
  refine wpS_cut (fun ds σ L => ∃ K : Nat, (1 ≤ K) ∧ (K ≤ 6) ∧ ds = [] ∧ σ 0 = .int .i64 ((((2 ^ K) : Nat) : Int)) ∧ σ 1 = .int .i64 q ∧ Ent L []) ?_ ?_
  · -- up to the cut
    refine wpS_region ?_
    refine s_y (v := .int .i64 n) (y_move rfl) rfl ?_
    refine s_y (v := .int .u64 ((((u64of n) : Nat) : Int))) (y_convI (a := n) (c := (((u64of n) : Nat) : Int)) rfl Try.underlying3 Try.underlying46 (u64of_wrap _)) rfl ?_
    refine s_y (v := .int .u64 (((((u64of n) % 6) : Nat) : Int))) (y_rem (a := (((u64of n) : Nat) : Int)) (b := 6) (c := ((((u64of n) % 6) : Nat) : Int)) rfl rfl (by omega) (n_rem _ 6 (by omega))) rfl ?_
    refine s_y (v := .int .i64 ((((2 ^ (u64of n % 6 + 1)) : Nat) : Int))) (y_shl (a := 2) (b := ((((u64of n) % 6) : Nat) : Int)) (c := (((2 ^ (u64of n % 6 + 1)) : Nat) : Int)) rfl rfl (by omega) (z2_shl (by omega))) rfl ?_
    refine s_y (v := .int .i64 ((((2 ^ (u64of n % 6 + 1)) : Nat) : Int))) (y_assign rfl) rfl ?_
    refine wpL_nil ?_
    refine thenS_n ?_
    exact ⟨(u64of n % 6 + 1), by omega, by omega, rfl, rfl, rfl, .nil⟩
  rintro ds σ L ⟨K, hf0_1, hf1_1, rfl, h0_1, h1_1, hE_1⟩
  refine wpS_ent hE_1 ?_; clear hE_1
  have hK1 : 1 ≤ K := by assumption
  have hK6 : K ≤ 6 := by assumption
  have hp1 := Nat.two_pow_pos K
  have hp2 : 2 ^ K ≤ 64 := Nat.pow_le_pow_right (n := 2) (by decide) (show K ≤ 6 by omega)
  have hrt := rnd1 hK6 hK1
  refine wpS_seq ?_
  refine wpS_region ?_
  refine s_y (v := .int .i64 0) (y_assign rfl) rfl ?_
  refine wpL_nil ?_
  refine thenS_n ?_
  refine wpS_seq ?_
  refine wpS_seq ?_
  refine wpS_region ?_
  refine s_y (v := .int .i64 ((((2 ^ K) : Nat) : Int))) (y_move h0_1) rfl ?_
  refine s_y (v := .int .i64 ((((2 ^ K) : Nat) : Int))) (y_assign rfl) rfl ?_
  refine wpL_nil ?_
  refine thenS_n ?_
  refine wpS_block ?_
  refine wpS_loop (fun m ds σ L => ∃ i0 : Nat, m = i0 ∧ (i0 ≤ K) ∧ (2 ^ i0 ≤ 64) ∧ ds = [] ∧ σ 0 = .int .i64 ((((2 ^ K) : Nat) : Int)) ∧ σ 1 = .int .i64 q ∧ σ 5 = .int .i64 ((((K - i0) : Nat) : Int)) ∧ σ 6 = .int .i64 ((((2 ^ i0) : Nat) : Int)) ∧ Ent L []) (m0 := K) ⟨K, rfl, by omega, by omega, rfl, h0_1, h1_1, (congrArg (Value.int .i64) (by first | omega | skip)), (congrArg (Value.int .i64) (by first | omega | rfl | exact congrArg (Nat.cast : Nat → Int) (half_pow _ (by omega)))), .nil⟩ ?_
  rintro m ds σ L ⟨i0, hm_2, hf0_2, hf1_2, rfl, h0_2, h1_2, h5_2, h6_2, hE_2⟩
  refine wpS_ent hE_2 ?_; clear hE_2
  refine wpS_seq ?_
  refine wpS_seq ?_
  refine wpS_region ?_
  refine s_y (v := .int .i64 ((((2 ^ i0) : Nat) : Int))) (y_move h6_2) rfl ?_
  refine s_y (v := .bool (decide ((1 : Nat) < (2 ^ i0)))) (y_gtr (a := (((2 ^ i0) : Nat) : Int)) (b := 1) (c := decide ((1 : Nat) < (2 ^ i0))) rfl rfl (decide_eq_decide.2 (by omega))) rfl ?_
  refine wpL_nil ?_
  refine thenS_n ?_
  refine wpS_cond (t := decide ((1 : Nat) < (2 ^ i0))) rfl (fun b3 => ?_) (fun b3 => ?_)
  · -- decide ((1 : Nat) < (2 ^ i0)) true
    have p3 := of_decide_eq_true b3
    have hpos := pow_one_lt (i := i0) (by omega)
    refine wpS_skip ?_
    refine thenS_n ?_
    refine wpS_seq ?_
    refine wpS_block ?_
    refine wpS_region ?_
    refine s_y (v := .int .i64 ((((K - i0) : Nat) : Int))) (y_move h5_2) rfl ?_
    refine s_y (v := .int .i64 (((((K - i0) + 1) : Nat) : Int))) (y_add (a := (((K - i0) : Nat) : Int)) (b := 1) (c := ((((K - i0) + 1) : Nat) : Int)) rfl rfl (wI (by omega) (by omega) (by omega))) rfl ?_
    refine s_y (v := .int .i64 (((((K - i0) + 1) : Nat) : Int))) (y_assign rfl) rfl ?_
    refine wpL_nil ?_
    refine blockS_n ?_
    refine thenS_n ?_
    refine wpS_region ?_
    refine s_y (v := .int .i64 ((((2 ^ i0) : Nat) : Int))) (y_move h6_2) rfl ?_
    refine s_y (v := .int .i64 (((((2 ^ i0) / 2) : Nat) : Int))) (y_quo (a := (((2 ^ i0) : Nat) : Int)) (b := 2) (c := ((((2 ^ i0) / 2) : Nat) : Int)) rfl rfl (by omega) (n_quo _ 2 (by omega) (by omega))) rfl ?_
    refine s_y (v := .int .i64 (((((2 ^ i0) / 2) : Nat) : Int))) (y_assign rfl) rfl ?_
    refine wpL_nil ?_
    refine thenS_n ?_
    exact ⟨_, by omega, ⟨(i0 - 1), rfl, by omega, (by rw [← half_pow _ hpos]; omega), rfl, h0_2, h1_2, (congrArg (Value.int .i64) (by first | omega | skip)), (congrArg (Value.int .i64) (by first | omega | rfl | exact congrArg (Nat.cast : Nat → Int) (half_pow _ (by omega)))), .nil⟩⟩
  · -- decide ((1 : Nat) < (2 ^ i0)) false
    have p3 := of_decide_eq_false b3
    have hi0 := pow_not (i := i0) (by omega)
    have hmm := Nat.mod_lt (u64of q) (show 0 < K - i0 by omega)
    refine wpS_exit ?_
    refine thenS_x ?_
    refine thenS_x ?_
    refine blockS_h ?_
    refine thenS_n ?_
    refine wpS_seq ?_
    refine wpS_region ?_
    refine s_y (v := .int .i64 ((((2 ^ K) : Nat) : Int))) (y_move h0_2) rfl ?_
    refine s_y (v := .int .i64 ((((rnd ((((2 ^ K) : Nat) : Int))) : Nat) : Int))) (y_call (args := #[.int .i64 ((((2 ^ K) : Nat) : Int))]) (v := .int .i64 ((((rnd ((((2 ^ K) : Nat) : Int))) : Nat) : Int))) Try.call52 (ev1 rfl) (fun w hs => rounds_c ((((2 ^ K) : Nat) : Int)) (by omega) (by omega) w)) rfl ?_
    refine s_y (v := .int .i64 ((((rnd ((((2 ^ K) : Nat) : Int))) : Nat) : Int))) (y_assign rfl) rfl ?_
    refine wpL_nil ?_
    refine thenS_n ?_
    refine wpS_cut (fun ds σ L => ∃ r : Nat, (r < rnd ((2 ^ K : Nat) : Int)) ∧ (∃ j, j < K ∧ r = Bit.tri (K - 1) + j) ∧ ds = [] ∧ σ 0 = .int .i64 ((((2 ^ K) : Nat) : Int)) ∧ σ 1 = .int .i64 (((r : Nat) : Int)) ∧ σ 7 = .int .i64 ((((rnd ((((2 ^ K) : Nat) : Int))) : Nat) : Int)) ∧ Ent L []) ?_ ?_
    · -- up to the cut
      refine wpS_region ?_
      refine s_y (v := .int .i64 ((((rnd ((((2 ^ K) : Nat) : Int))) : Nat) : Int))) (y_move rfl) rfl ?_
      refine s_y (v := .int .i64 (((((rnd ((((2 ^ K) : Nat) : Int))) - 1) : Nat) : Int))) (y_sub (a := (((rnd ((((2 ^ K) : Nat) : Int))) : Nat) : Int)) (b := 1) (c := ((((rnd ((((2 ^ K) : Nat) : Int))) - 1) : Nat) : Int)) rfl rfl (wI (by omega) (by omega) (by omega))) rfl ?_
      refine s_y (v := .int .i64 q) (y_move h1_2) rfl ?_
      refine s_y (v := .int .u64 ((((u64of q) : Nat) : Int))) (y_convI (a := q) (c := (((u64of q) : Nat) : Int)) rfl Try.underlying3 Try.underlying46 (u64of_wrap _)) rfl ?_
      refine s_y (v := .int .i64 ((((K - i0) : Nat) : Int))) (y_move h5_2) rfl ?_
      refine s_y (v := .int .u64 ((((K - i0) : Nat) : Int))) (y_convI (a := (((K - i0) : Nat) : Int)) (c := (((K - i0) : Nat) : Int)) rfl Try.underlying3 Try.underlying46 (wU rfl (by omega) (by omega))) rfl ?_
      refine s_y (v := .int .u64 (((((u64of q) % (K - i0)) : Nat) : Int))) (y_rem (a := (((u64of q) : Nat) : Int)) (b := (((K - i0) : Nat) : Int)) (c := ((((u64of q) % (K - i0)) : Nat) : Int)) rfl rfl (by omega) (n_rem _ (K - i0) (by omega))) rfl ?_
      refine s_y (v := .int .i64 (((((u64of q) % (K - i0)) : Nat) : Int))) (y_convI (a := ((((u64of q) % (K - i0)) : Nat) : Int)) (c := ((((u64of q) % (K - i0)) : Nat) : Int)) rfl Try.underlying46 Try.underlying3 (wI rfl (by omega) (by omega))) rfl ?_
      refine s_y (v := .int .i64 ((((((rnd ((((2 ^ K) : Nat) : Int))) - 1) - ((u64of q) % (K - i0))) : Nat) : Int))) (y_sub (a := ((((rnd ((((2 ^ K) : Nat) : Int))) - 1) : Nat) : Int)) (b := ((((u64of q) % (K - i0)) : Nat) : Int)) (c := (((((rnd ((((2 ^ K) : Nat) : Int))) - 1) - ((u64of q) % (K - i0))) : Nat) : Int)) rfl rfl (wI (by omega) (by omega) (by omega))) rfl ?_
      refine s_y (v := .int .i64 ((((((rnd ((((2 ^ K) : Nat) : Int))) - 1) - ((u64of q) % (K - i0))) : Nat) : Int))) (y_assign rfl) rfl ?_
      refine wpL_nil ?_
      refine thenS_n ?_
      exact ⟨(((rnd ((((2 ^ K) : Nat) : Int))) - 1) - ((u64of q) % (K - i0))), by omega, (ways_r (by omega) (by omega)), rfl, h0_2, rfl, rfl, .nil⟩
    rintro ds σ L ⟨r, hf0_4, hf1_4, rfl, h0_4, h1_4, h7_4, hE_4⟩
    refine wpS_ent hE_4 ?_; clear hE_4
    have hrj : ∃ j, j < K ∧ r = Bit.tri (K - 1) + j := by assumption
    have hfh := frs_half (K := K) (r := r) (by omega) (by omega)
    have hfh0 := frs_half (K := K) (r := 0) (by omega) (by omega)
    have hZl := frsZ_len ((2 ^ K : Nat) : Int) r
    have hYl := frsY_len ((2 ^ K : Nat) : Int) r
    have hZ0 := frsZ_len ((2 ^ K : Nat) : Int) ((0 : Nat) : Int)
    have hY0 := frsY_len ((2 ^ K : Nat) : Int) ((0 : Nat) : Int)
    rw [show ((0 : Nat) : Int) = 0 from rfl] at hfh0 hZ0 hY0
    refine wpS_seq ?_
    refine wpS_seq ?_
    refine wpS_region ?_
    refine s_y (v := .bool true) (y_call (args := #[]) (v := .bool true) Try.call51 ev0 (fun w hs => awake13_c w)) rfl ?_
    refine s_y (v := .bool false) (y_notK (b := true) (c := false) rfl rfl) rfl ?_
    refine s_y (v := .bool false) (y_move rfl) rfl ?_
    refine s_gy (y_move h7_4) rfl rfl rfl rfl rfl rfl ?_
    refine s_gy (y_lss (a := (((rnd ((((2 ^ K) : Nat) : Int))) : Nat) : Int)) (b := 1) (c := decide (((rnd ((((2 ^ K) : Nat) : Int))) : Nat) < 1)) rfl rfl (decide_eq_decide.2 (by omega))) rfl rfl rfl rfl rfl rfl ?_
    refine s_y (v := .bool (decide (((rnd ((((2 ^ K) : Nat) : Int))) : Nat) < 1))) (y_pickF (v := .bool (decide (((rnd ((((2 ^ K) : Nat) : Int))) : Nat) < 1))) rfl rfl rfl) rfl ?_
    refine s_y (v := .bool (decide (((rnd ((((2 ^ K) : Nat) : Int))) : Nat) < 1))) (y_move rfl) rfl ?_
    refine s_gy (y_move h1_4) rfl rfl rfl rfl (b' := decide (((rnd ((((2 ^ K) : Nat) : Int))) : Nat) < 1)) rfl (decide_eq_false (by omega)) ?_
    refine s_gy (y_lss (a := ((r : Nat) : Int)) (b := 0) (c := decide ((r : Nat) < 0)) rfl rfl (decide_eq_decide.2 (by omega))) rfl rfl rfl rfl (b' := decide (((rnd ((((2 ^ K) : Nat) : Int))) : Nat) < 1)) rfl (decide_eq_false (by omega)) ?_
    refine s_y (v := .bool (decide ((r : Nat) < 0))) (y_pickF (b := decide (((rnd ((((2 ^ K) : Nat) : Int))) : Nat) < 1)) (v := .bool (decide ((r : Nat) < 0))) rfl (decide_eq_false (by omega)) rfl) rfl ?_
    refine wpL_nil ?_
    refine thenS_n ?_
    refine wpS_cond_F (t := decide ((r : Nat) < 0)) rfl (decide_eq_false (by omega)) ?_
    refine wpS_skip ?_
    refine thenS_n ?_
    refine wpS_seq ?_
    refine wpS_region ?_
    refine s_y (v := .int .i64 ((((2 ^ K) : Nat) : Int))) (y_move h0_4) rfl ?_
    refine s_y (v := .int .i64 (((r : Nat) : Int))) (y_move h1_4) rfl ?_
    refine s_e rfl ?_
    refine e_call (f := 53) (args := #[.int .i64 ((((2 ^ K) : Nat) : Int)), .int .i64 (((r : Nat) : Int))]) (X := Nat × Nat) (A := []) (M := []) (V := fun x : Nat × Nat => .func (.func 152) #[] #[.pointer (some ⟨x.1, 0, none⟩), .pointer (some ⟨x.2, 0, none⟩)]) (A' := fun x : Nat × Nat => [cel x.1 3 [.int .i64 ((((2 ^ K) : Nat) : Int))], cel x.2 3 [.int .i64 (((r : Nat) : Int))]]) (C := fun _ => True) Try.call53 (ev2 rfl rfl) (.nil) (fun w hs => round_c ((((2 ^ K) : Nat) : Int)) (((r : Nat) : Int)) w) ?_
    rintro ⟨b_5, b_6⟩ -
    refine s_y (v := .int .i64 ((((2 ^ K) : Nat) : Int))) (y_move h0_4) rfl ?_
    refine s_e rfl ?_
    refine e_call (f := 54) (args := #[.func (.func 152) #[] #[.pointer (some ⟨b_5, 0, none⟩), .pointer (some ⟨b_6, 0, none⟩)], .int .i64 ((((2 ^ K) : Nat) : Int))]) (X := (Option Addr × Nat) × (Option Addr × Nat)) (A := []) (M := [cel b_5 3 [.int .i64 ((((2 ^ K) : Nat) : Int))], cel b_6 3 [.int .i64 (((r : Nat) : Int))]]) (V := fun x => .tuple #[slV (frsZ ((((2 ^ K) : Nat) : Int)) (((r : Nat) : Int))) x.1, slV (frsY ((((2 ^ K) : Nat) : Int)) (((r : Nat) : Int))) x.2, .bool true]) (A' := fun x => [slR intV 1 3 (frsZ ((((2 ^ K) : Nat) : Int)) (((r : Nat) : Int))) x.1, slR intV 1 3 (frsY ((((2 ^ K) : Nat) : Int)) (((r : Nat) : Int))) x.2]) (C := fun _ => True) Try.call54 (ev2 rfl rfl) (.p .h (.p .h .nil)) (fun w hs => seq2r_c ((((2 ^ K) : Nat) : Int)) (((r : Nat) : Int)) (by omega) (by omega) (by omega) (by omega) b_5 b_6 (((2 ^ K) : Nat) : Int) w (own1 .h rfl w hs) (own1 (.t .h) rfl w hs) (by have := frs_len ((2 ^ K : Nat) : Int) r; have := frs_len ((2 ^ K : Nat) : Int) 0; omega) (by omega)) ?_
    rintro ⟨⟨a_7, c_8⟩, ⟨a_9, c_10⟩⟩ -
    refine s_y (v := .tuple #[.slice a_7 ((frsZ ((((2 ^ K) : Nat) : Int)) (((r : Nat) : Int))).length) c_8, .slice a_9 ((frsY ((((2 ^ K) : Nat) : Int)) (((r : Nat) : Int))).length) c_10, .bool true]) (y_move rfl) rfl ?_
    refine s_y (v := .slice a_7 ((frsZ ((((2 ^ K) : Nat) : Int)) (((r : Nat) : Int))).length) c_8) (y_extract (v := .slice a_7 ((frsZ ((((2 ^ K) : Nat) : Int)) (((r : Nat) : Int))).length) c_8) rfl rfl) rfl ?_
    refine s_y (v := .slice a_9 ((frsY ((((2 ^ K) : Nat) : Int)) (((r : Nat) : Int))).length) c_10) (y_extract (v := .slice a_9 ((frsY ((((2 ^ K) : Nat) : Int)) (((r : Nat) : Int))).length) c_10) rfl rfl) rfl ?_
    refine s_y (v := .bool true) (y_extract (v := .bool true) rfl rfl) rfl ?_
    refine s_y (v := .slice a_7 ((frsZ ((((2 ^ K) : Nat) : Int)) (((r : Nat) : Int))).length) c_8) (y_assign rfl) rfl ?_
    refine s_y (v := .slice a_9 ((frsY ((((2 ^ K) : Nat) : Int)) (((r : Nat) : Int))).length) c_10) (y_assign rfl) rfl ?_
    refine s_y (v := .bool true) (y_assign rfl) rfl ?_
    refine wpL_nil ?_
    refine thenS_n ?_
    refine wpS_seq ?_
    refine wpS_region ?_
    refine s_y (v := .int .i64 ((((2 ^ K) : Nat) : Int))) (y_move h0_4) rfl ?_
    refine s_e rfl ?_
    refine e_call (f := 53) (args := #[.int .i64 ((((2 ^ K) : Nat) : Int)), .int .i64 0]) (X := Nat × Nat) (A := []) (M := [osl a_7 c_8 ((frsZ ((((2 ^ K) : Nat) : Int)) (((r : Nat) : Int))).length) 1 3 ((frsZ ((((2 ^ K) : Nat) : Int)) (((r : Nat) : Int))).flatMap intV), osl a_9 c_10 ((frsY ((((2 ^ K) : Nat) : Int)) (((r : Nat) : Int))).length) 1 3 ((frsY ((((2 ^ K) : Nat) : Int)) (((r : Nat) : Int))).flatMap intV), cel b_5 3 [.int .i64 ((((2 ^ K) : Nat) : Int))], cel b_6 3 [.int .i64 (((r : Nat) : Int))]]) (V := fun x : Nat × Nat => .func (.func 152) #[] #[.pointer (some ⟨x.1, 0, none⟩), .pointer (some ⟨x.2, 0, none⟩)]) (A' := fun x : Nat × Nat => [cel x.1 3 [.int .i64 ((((2 ^ K) : Nat) : Int))], cel x.2 3 [.int .i64 0]]) (C := fun _ => True) Try.call53 (ev2 rfl rfl) (.p .h (.p .h (.p .h (.p .h .nil)))) (fun w hs => round_c ((((2 ^ K) : Nat) : Int)) 0 w) ?_
    rintro ⟨b_13, b_14⟩ -
    refine s_y (v := .int .i64 ((((2 ^ K) : Nat) : Int))) (y_move h0_4) rfl ?_
    refine s_e rfl ?_
    refine e_call (f := 54) (args := #[.func (.func 152) #[] #[.pointer (some ⟨b_13, 0, none⟩), .pointer (some ⟨b_14, 0, none⟩)], .int .i64 ((((2 ^ K) : Nat) : Int))]) (X := (Option Addr × Nat) × (Option Addr × Nat)) (A := []) (M := [cel b_13 3 [.int .i64 ((((2 ^ K) : Nat) : Int))], cel b_14 3 [.int .i64 0], osl a_7 c_8 ((frsZ ((((2 ^ K) : Nat) : Int)) (((r : Nat) : Int))).length) 1 3 ((frsZ ((((2 ^ K) : Nat) : Int)) (((r : Nat) : Int))).flatMap intV), osl a_9 c_10 ((frsY ((((2 ^ K) : Nat) : Int)) (((r : Nat) : Int))).length) 1 3 ((frsY ((((2 ^ K) : Nat) : Int)) (((r : Nat) : Int))).flatMap intV), cel b_5 3 [.int .i64 ((((2 ^ K) : Nat) : Int))], cel b_6 3 [.int .i64 (((r : Nat) : Int))]]) (V := fun x => .tuple #[slV (frsZ ((((2 ^ K) : Nat) : Int)) 0) x.1, slV (frsY ((((2 ^ K) : Nat) : Int)) 0) x.2, .bool true]) (A' := fun x => [slR intV 1 3 (frsZ ((((2 ^ K) : Nat) : Int)) 0) x.1, slR intV 1 3 (frsY ((((2 ^ K) : Nat) : Int)) 0) x.2]) (C := fun _ => True) Try.call54 (ev2 rfl rfl) (.p .h (.p .h (.p .h (.p .h (.p .h (.p .h .nil)))))) (fun w hs => seq2r_c ((((2 ^ K) : Nat) : Int)) 0 (by omega) (by omega) (by omega) (by omega) b_13 b_14 (((2 ^ K) : Nat) : Int) w (own1 .h rfl w hs) (own1 (.t .h) rfl w hs) (by have := frs_len ((2 ^ K : Nat) : Int) r; have := frs_len ((2 ^ K : Nat) : Int) 0; omega) (by omega)) ?_
    rintro ⟨⟨a_15, c_16⟩, ⟨a_17, c_18⟩⟩ -
    refine s_y (v := .tuple #[.slice a_15 ((frsZ ((((2 ^ K) : Nat) : Int)) 0).length) c_16, .slice a_17 ((frsY ((((2 ^ K) : Nat) : Int)) 0).length) c_18, .bool true]) (y_move rfl) rfl ?_
    refine s_y (v := .slice a_15 ((frsZ ((((2 ^ K) : Nat) : Int)) 0).length) c_16) (y_extract (v := .slice a_15 ((frsZ ((((2 ^ K) : Nat) : Int)) 0).length) c_16) rfl rfl) rfl ?_
    refine s_y (v := .slice a_17 ((frsY ((((2 ^ K) : Nat) : Int)) 0).length) c_18) (y_extract (v := .slice a_17 ((frsY ((((2 ^ K) : Nat) : Int)) 0).length) c_18) rfl rfl) rfl ?_
    refine s_y (v := .bool true) (y_extract (v := .bool true) rfl rfl) rfl ?_
    refine s_y (v := .slice a_15 ((frsZ ((((2 ^ K) : Nat) : Int)) 0).length) c_16) (y_assign rfl) rfl ?_
    refine s_y (v := .slice a_17 ((frsY ((((2 ^ K) : Nat) : Int)) 0).length) c_18) (y_assign rfl) rfl ?_
    refine s_y (v := .bool true) (y_assign rfl) rfl ?_
    refine wpL_nil ?_
    refine thenS_n ?_
    refine wpS_seq ?_
    refine wpS_seq ?_
    refine wpS_region ?_
    refine s_y (v := .bool true) (y_move rfl) rfl ?_
    refine s_y (v := .bool false) (y_notK (b := true) (c := false) rfl rfl) rfl ?_
    refine s_y (v := .bool false) (y_move rfl) rfl ?_
    refine s_gy (y_move rfl) rfl rfl rfl rfl rfl rfl ?_
    refine s_gy (y_notK (b := true) (c := false) rfl rfl) rfl rfl rfl rfl rfl rfl ?_
    refine s_y (v := .bool false) (y_pickF (v := .bool false) rfl rfl rfl) rfl ?_
    refine s_y (v := .bool false) (y_move rfl) rfl ?_
    refine s_gy (y_move rfl) rfl rfl rfl rfl rfl rfl ?_
    refine s_gy (y_len (ty' := 0) (at_ := #[]) rfl Try.underlying39) rfl rfl rfl rfl rfl rfl ?_
    refine s_gy (y_move h0_4) rfl rfl rfl rfl rfl rfl ?_
    refine s_gy (y_quo (a := (((2 ^ K) : Nat) : Int)) (b := 2) (c := ((((2 ^ K) / 2) : Nat) : Int)) rfl rfl (by omega) (n_quo _ 2 (by omega) (by omega))) rfl rfl rfl rfl rfl rfl ?_
    refine s_gy (y_neq (a := (((frsZ ((((2 ^ K) : Nat) : Int)) 0).length : Nat) : Int)) (b := ((((2 ^ K) / 2) : Nat) : Int)) (c := decide (((frsZ ((((2 ^ K) : Nat) : Int)) 0).length) ≠ ((2 ^ K) / 2))) rfl rfl (decide_eq_decide.2 (by omega))) rfl rfl rfl rfl rfl rfl ?_
    refine s_y (v := .bool (decide (((frsZ ((((2 ^ K) : Nat) : Int)) 0).length) ≠ ((2 ^ K) / 2)))) (y_pickF (v := .bool (decide (((frsZ ((((2 ^ K) : Nat) : Int)) 0).length) ≠ ((2 ^ K) / 2)))) rfl rfl rfl) rfl ?_
    refine wpL_nil ?_
    refine thenS_n ?_
    refine wpS_cond_F (t := decide (((frsZ ((((2 ^ K) : Nat) : Int)) 0).length) ≠ ((2 ^ K) / 2))) rfl (decide_eq_false (by omega)) ?_
    refine wpS_skip ?_
    refine thenS_n ?_
    refine wpS_seq ?_
    refine wpS_seq ?_
    refine wpS_region ?_
    refine s_y (v := .int .i64 0) (y_assign rfl) rfl ?_
    refine wpL_nil ?_
    refine thenS_n ?_
    refine wpS_block ?_
    refine wpS_loop (fun m ds σ L => ∃ i : Nat, m = (frsZ ((2 ^ K : Nat) : Int) r).length - i ∧ (i ≤ (frsZ ((2 ^ K : Nat) : Int) r).length) ∧ ds = [] ∧ σ 0 = .int .i64 ((((2 ^ K) : Nat) : Int)) ∧ σ 1 = .int .i64 (((r : Nat) : Int)) ∧ σ 8 = .slice a_7 ((frsZ ((((2 ^ K) : Nat) : Int)) (((r : Nat) : Int))).length) c_8 ∧ σ 11 = .slice a_15 ((frsZ ((((2 ^ K) : Nat) : Int)) 0).length) c_16 ∧ σ 14 = .int .i64 (((i : Nat) : Int)) ∧ Ent L [osl a_15 c_16 ((frsZ ((((2 ^ K) : Nat) : Int)) 0).length) 1 3 ((frsZ ((((2 ^ K) : Nat) : Int)) 0).flatMap intV), osl a_17 c_18 ((frsY ((((2 ^ K) : Nat) : Int)) 0).length) 1 3 ((frsY ((((2 ^ K) : Nat) : Int)) 0).flatMap intV), cel b_13 3 [.int .i64 ((((2 ^ K) : Nat) : Int))], cel b_14 3 [.int .i64 0], osl a_7 c_8 ((frsZ ((((2 ^ K) : Nat) : Int)) (((r : Nat) : Int))).length) 1 3 ((frsZ ((((2 ^ K) : Nat) : Int)) (((r : Nat) : Int))).flatMap intV), osl a_9 c_10 ((frsY ((((2 ^ K) : Nat) : Int)) (((r : Nat) : Int))).length) 1 3 ((frsY ((((2 ^ K) : Nat) : Int)) (((r : Nat) : Int))).flatMap intV), cel b_5 3 [.int .i64 ((((2 ^ K) : Nat) : Int))], cel b_6 3 [.int .i64 (((r : Nat) : Int))]]) (m0 := (frsZ ((2 ^ K : Nat) : Int) r).length - 0) ⟨0, rfl, by omega, rfl, h0_4, h1_4, rfl, rfl, rfl, .p .h (.p .h (.p .h (.p .h (.p .h (.p .h (.p .h (.p .h .nil)))))))⟩ ?_
    rintro m ds σ L ⟨i, hm_21, hf0_21, rfl, h0_21, h1_21, h8_21, h11_21, h14_21, hE_21⟩
    refine wpS_ent hE_21 ?_; clear hE_21
    have hzb := frsZ_bd ((2 ^ K : Nat) : Int) r i
    refine wpS_seq ?_
    refine wpS_seq ?_
    refine wpS_region ?_
    refine s_y (v := .int .i64 (((i : Nat) : Int))) (y_move h14_21) rfl ?_
    refine s_y (v := .slice a_7 ((frsZ ((((2 ^ K) : Nat) : Int)) (((r : Nat) : Int))).length) c_8) (y_move h8_21) rfl ?_
    refine s_y (v := .int .i64 ((((frsZ ((((2 ^ K) : Nat) : Int)) (((r : Nat) : Int))).length : Nat) : Int))) (y_len (ty' := 0) (at_ := #[]) rfl Try.underlying39) rfl ?_
    refine s_y (v := .bool (decide (i < ((frsZ ((((2 ^ K) : Nat) : Int)) (((r : Nat) : Int))).length)))) (y_lss (a := ((i : Nat) : Int)) (b := (((frsZ ((((2 ^ K) : Nat) : Int)) (((r : Nat) : Int))).length : Nat) : Int)) (c := decide (i < ((frsZ ((((2 ^ K) : Nat) : Int)) (((r : Nat) : Int))).length))) rfl rfl (decide_eq_decide.2 (by omega))) rfl ?_
    refine wpL_nil ?_
    refine thenS_n ?_
    refine wpS_cond (t := decide (i < ((frsZ ((((2 ^ K) : Nat) : Int)) (((r : Nat) : Int))).length))) rfl (fun b22 => ?_) (fun b22 => ?_)
    · -- decide (i < ((frsZ ((((2 ^ K) : Nat) : Int)) (((r : Nat) : Int))).length)) true
      have p22 := of_decide_eq_true b22
      refine wpS_skip ?_
      refine thenS_n ?_
      refine wpS_seq ?_
      refine wpS_block ?_
      refine wpS_seq ?_
      refine wpS_region ?_
      refine s_y (v := .int .i64 ((((2 ^ K) : Nat) : Int))) (y_move h0_21) rfl ?_
      refine s_y (v := .int .i64 (((r : Nat) : Int))) (y_move h1_21) rfl ?_
      refine s_y (v := .slice a_7 ((frsZ ((((2 ^ K) : Nat) : Int)) (((r : Nat) : Int))).length) c_8) (y_move h8_21) rfl ?_
      refine s_y (v := .int .i64 (((i : Nat) : Int))) (y_move h14_21) rfl ?_
      refine s_y (v := .pointer (some ⟨aB a_7, aO a_7 + i * 1, none⟩)) (y_idx (o := i * 1) rfl rfl Try.underlying39 Try.sizeOf3 (oslR (.t (.t (.t (.t .h))))) (fl_len intV_len _) (by decide) (by omega) (by omega) (by omega)) rfl ?_
      refine s_y (v := .int .i64 (((frsZ ((((2 ^ K) : Nat) : Int)) (((r : Nat) : Int))).getD i default))) (y_load1 (v := .int .i64 (((frsZ ((((2 ^ K) : Nat) : Int)) (((r : Nat) : Int))).getD i default))) rfl Try.isAgg3 (rd1 (k := i * 1) (oslR (.t (.t (.t (.t .h))))) (fl_get0 intV_len (frsZ ((((2 ^ K) : Nat) : Int)) (((r : Nat) : Int))) i (by first | omega | (simp only [List.length_set, List.length_take, List.length_drop]; done) | (simp only [List.length_set, List.length_take, List.length_drop]; omega)) rfl))) rfl ?_
      refine s_y (v := .bool ((up ((((2 ^ K) : Nat) : Int)) (((r : Nat) : Int)) ((frsZ ((((2 ^ K) : Nat) : Int)) (((r : Nat) : Int))).getD i default)))) (y_call (args := #[.int .i64 ((((2 ^ K) : Nat) : Int)), .int .i64 (((r : Nat) : Int)), .int .i64 (((frsZ ((((2 ^ K) : Nat) : Int)) (((r : Nat) : Int))).getD i default))]) (v := .bool ((up ((((2 ^ K) : Nat) : Int)) (((r : Nat) : Int)) ((frsZ ((((2 ^ K) : Nat) : Int)) (((r : Nat) : Int))).getD i default)))) Try.call59 (ev3 rfl rfl rfl) (fun w hs => up_c ((((2 ^ K) : Nat) : Int)) (((r : Nat) : Int)) ((frsZ ((((2 ^ K) : Nat) : Int)) (((r : Nat) : Int))).getD i default) (by omega) (by omega) (by omega) (by omega) (by omega) (by omega) w)) rfl ?_
      refine s_y (v := .bool (!(up ((((2 ^ K) : Nat) : Int)) (((r : Nat) : Int)) ((frsZ ((((2 ^ K) : Nat) : Int)) (((r : Nat) : Int))).getD i default)))) (y_not (b := (up ((((2 ^ K) : Nat) : Int)) (((r : Nat) : Int)) ((frsZ ((((2 ^ K) : Nat) : Int)) (((r : Nat) : Int))).getD i default))) rfl) rfl ?_
      refine wpL_nil ?_
      refine thenS_n ?_
      refine wpS_cond_F (t := !(up ((((2 ^ K) : Nat) : Int)) (((r : Nat) : Int)) ((frsZ ((((2 ^ K) : Nat) : Int)) (((r : Nat) : Int))).getD i default))) rfl (by rw [ways1 (by omega) hrj (by omega)]; rfl) ?_
      refine wpS_skip ?_
      refine blockS_n ?_
      refine thenS_n ?_
      refine wpS_region ?_
      refine s_y (v := .int .i64 (((i : Nat) : Int))) (y_move h14_21) rfl ?_
      refine s_y (v := .int .i64 ((((i + 1) : Nat) : Int))) (y_add (a := ((i : Nat) : Int)) (b := 1) (c := (((i + 1) : Nat) : Int)) rfl rfl (wI (by omega) (by omega) (by omega))) rfl ?_
      refine s_y (v := .int .i64 ((((i + 1) : Nat) : Int))) (y_assign rfl) rfl ?_
      refine wpL_nil ?_
      refine thenS_n ?_
      exact ⟨_, by omega, ⟨(i + 1), rfl, by omega, rfl, h0_21, h1_21, h8_21, h11_21, rfl, .p .h (.p .h (.p .h (.p .h (.p .h (.p .h (.p .h (.p .h .nil)))))))⟩⟩
    · -- decide (i < ((frsZ ((((2 ^ K) : Nat) : Int)) (((r : Nat) : Int))).length)) false
      have p22 := of_decide_eq_false b22
      refine wpS_exit ?_
      refine thenS_x ?_
      refine thenS_x ?_
      refine blockS_h ?_
      refine thenS_n ?_
      refine wpS_seq ?_
      refine wpS_seq ?_
      refine wpS_region ?_
      refine s_y (v := .int .i64 0) (y_assign rfl) rfl ?_
      refine wpL_nil ?_
      refine thenS_n ?_
      refine wpS_block ?_
      refine wpS_loop (fun m ds σ L => ∃ i2 : Nat, m = (frsZ ((2 ^ K : Nat) : Int) 0).length - i2 ∧ (i2 ≤ (frsZ ((2 ^ K : Nat) : Int) 0).length) ∧ ds = [] ∧ σ 0 = .int .i64 ((((2 ^ K) : Nat) : Int)) ∧ σ 11 = .slice a_15 ((frsZ ((((2 ^ K) : Nat) : Int)) 0).length) c_16 ∧ σ 15 = .int .i64 (((i2 : Nat) : Int)) ∧ Ent L [osl a_15 c_16 ((frsZ ((((2 ^ K) : Nat) : Int)) 0).length) 1 3 ((frsZ ((((2 ^ K) : Nat) : Int)) 0).flatMap intV), osl a_17 c_18 ((frsY ((((2 ^ K) : Nat) : Int)) 0).length) 1 3 ((frsY ((((2 ^ K) : Nat) : Int)) 0).flatMap intV), cel b_13 3 [.int .i64 ((((2 ^ K) : Nat) : Int))], cel b_14 3 [.int .i64 0], osl a_7 c_8 ((frsZ ((((2 ^ K) : Nat) : Int)) (((r : Nat) : Int))).length) 1 3 ((frsZ ((((2 ^ K) : Nat) : Int)) (((r : Nat) : Int))).flatMap intV), osl a_9 c_10 ((frsY ((((2 ^ K) : Nat) : Int)) (((r : Nat) : Int))).length) 1 3 ((frsY ((((2 ^ K) : Nat) : Int)) (((r : Nat) : Int))).flatMap intV), cel b_5 3 [.int .i64 ((((2 ^ K) : Nat) : Int))], cel b_6 3 [.int .i64 (((r : Nat) : Int))]]) (m0 := (frsZ ((2 ^ K : Nat) : Int) 0).length - 0) ⟨0, rfl, by omega, rfl, h0_21, h11_21, rfl, .p .h (.p .h (.p .h (.p .h (.p .h (.p .h (.p .h (.p .h .nil)))))))⟩ ?_
      rintro m ds σ L ⟨i2, hm_23, hf0_23, rfl, h0_23, h11_23, h15_23, hE_23⟩
      refine wpS_ent hE_23 ?_; clear hE_23
      have hzb0 := frsZ_bd ((2 ^ K : Nat) : Int) 0 i2
      refine wpS_seq ?_
      refine wpS_seq ?_
      refine wpS_region ?_
      refine s_y (v := .int .i64 (((i2 : Nat) : Int))) (y_move h15_23) rfl ?_
      refine s_y (v := .slice a_15 ((frsZ ((((2 ^ K) : Nat) : Int)) 0).length) c_16) (y_move h11_23) rfl ?_
      refine s_y (v := .int .i64 ((((frsZ ((((2 ^ K) : Nat) : Int)) 0).length : Nat) : Int))) (y_len (ty' := 0) (at_ := #[]) rfl Try.underlying39) rfl ?_
      refine s_y (v := .bool (decide (i2 < ((frsZ ((((2 ^ K) : Nat) : Int)) 0).length)))) (y_lss (a := ((i2 : Nat) : Int)) (b := (((frsZ ((((2 ^ K) : Nat) : Int)) 0).length : Nat) : Int)) (c := decide (i2 < ((frsZ ((((2 ^ K) : Nat) : Int)) 0).length))) rfl rfl (decide_eq_decide.2 (by omega))) rfl ?_
      refine wpL_nil ?_
      refine thenS_n ?_
      refine wpS_cond (t := decide (i2 < ((frsZ ((((2 ^ K) : Nat) : Int)) 0).length))) rfl (fun b24 => ?_) (fun b24 => ?_)
      · -- decide (i2 < ((frsZ ((((2 ^ K) : Nat) : Int)) 0).length)) true
        have p24 := of_decide_eq_true b24
        refine wpS_skip ?_
        refine thenS_n ?_
        refine wpS_seq ?_
        refine wpS_block ?_
        refine wpS_seq ?_
        refine wpS_region ?_
        refine s_y (v := .int .i64 ((((2 ^ K) : Nat) : Int))) (y_move h0_23) rfl ?_
        refine s_y (v := .slice a_15 ((frsZ ((((2 ^ K) : Nat) : Int)) 0).length) c_16) (y_move h11_23) rfl ?_
        refine s_y (v := .int .i64 (((i2 : Nat) : Int))) (y_move h15_23) rfl ?_
        refine s_y (v := .pointer (some ⟨aB a_15, aO a_15 + i2 * 1, none⟩)) (y_idx (o := i2 * 1) rfl rfl Try.underlying39 Try.sizeOf3 (oslR .h) (fl_len intV_len _) (by decide) (by omega) (by omega) (by omega)) rfl ?_
        refine s_y (v := .int .i64 (((frsZ ((((2 ^ K) : Nat) : Int)) 0).getD i2 default))) (y_load1 (v := .int .i64 (((frsZ ((((2 ^ K) : Nat) : Int)) 0).getD i2 default))) rfl Try.isAgg3 (rd1 (k := i2 * 1) (oslR .h) (fl_get0 intV_len (frsZ ((((2 ^ K) : Nat) : Int)) 0) i2 (by first | omega | (simp only [List.length_set, List.length_take, List.length_drop]; done) | (simp only [List.length_set, List.length_take, List.length_drop]; omega)) rfl))) rfl ?_
        refine s_y (v := .bool ((up ((((2 ^ K) : Nat) : Int)) 0 ((frsZ ((((2 ^ K) : Nat) : Int)) 0).getD i2 default)))) (y_call (args := #[.int .i64 ((((2 ^ K) : Nat) : Int)), .int .i64 0, .int .i64 (((frsZ ((((2 ^ K) : Nat) : Int)) 0).getD i2 default))]) (v := .bool ((up ((((2 ^ K) : Nat) : Int)) 0 ((frsZ ((((2 ^ K) : Nat) : Int)) 0).getD i2 default)))) Try.call59 (ev3 rfl rfl rfl) (fun w hs => up_c ((((2 ^ K) : Nat) : Int)) 0 ((frsZ ((((2 ^ K) : Nat) : Int)) 0).getD i2 default) (by omega) (by omega) (by omega) (by omega) (by omega) (by omega) w)) rfl ?_
        refine s_y (v := .int .i64 (((i2 : Nat) : Int))) (y_move h15_23) rfl ?_
        refine s_y (v := .int .i64 ((((i2 % 2) : Nat) : Int))) (y_rem (a := ((i2 : Nat) : Int)) (b := 2) (c := (((i2 % 2) : Nat) : Int)) rfl rfl (by omega) (n_rem _ 2 (by omega))) rfl ?_
        refine s_y (v := .bool (decide (((i2 % 2) : Nat) = 0))) (y_eql (a := (((i2 % 2) : Nat) : Int)) (b := 0) (c := decide (((i2 % 2) : Nat) = 0)) rfl rfl (decide_eq_decide.2 (by omega))) rfl ?_
        refine s_y (v := .bool (!((up ((((2 ^ K) : Nat) : Int)) 0 ((frsZ ((((2 ^ K) : Nat) : Int)) 0).getD i2 default)) == (decide (((i2 % 2) : Nat) = 0))))) (y_neqB (a := (up ((((2 ^ K) : Nat) : Int)) 0 ((frsZ ((((2 ^ K) : Nat) : Int)) 0).getD i2 default))) (b := decide (((i2 % 2) : Nat) = 0)) Try.underlying4 rfl rfl rfl) rfl ?_
        refine wpL_nil ?_
        refine thenS_n ?_
        refine wpS_cond_F (t := !((up ((((2 ^ K) : Nat) : Int)) 0 ((frsZ ((((2 ^ K) : Nat) : Int)) 0).getD i2 default)) == (decide (((i2 % 2) : Nat) = 0)))) rfl (by rw [ways0 (by omega) (by omega) (by omega)]; simp) ?_
        refine wpS_skip ?_
        refine blockS_n ?_
        refine thenS_n ?_
        refine wpS_region ?_
        refine s_y (v := .int .i64 (((i2 : Nat) : Int))) (y_move h15_23) rfl ?_
        refine s_y (v := .int .i64 ((((i2 + 1) : Nat) : Int))) (y_add (a := ((i2 : Nat) : Int)) (b := 1) (c := (((i2 + 1) : Nat) : Int)) rfl rfl (wI (by omega) (by omega) (by omega))) rfl ?_
        refine s_y (v := .int .i64 ((((i2 + 1) : Nat) : Int))) (y_assign rfl) rfl ?_
        refine wpL_nil ?_
        refine thenS_n ?_
        exact ⟨_, by omega, ⟨(i2 + 1), rfl, by omega, rfl, h0_23, h11_23, rfl, .p .h (.p .h (.p .h (.p .h (.p .h (.p .h (.p .h (.p .h .nil)))))))⟩⟩
      · -- decide (i2 < ((frsZ ((((2 ^ K) : Nat) : Int)) 0).length)) false
        have p24 := of_decide_eq_false b24
        refine wpS_exit ?_
        refine thenS_x ?_
        refine thenS_x ?_
        refine blockS_h ?_
        refine thenS_n ?_
        refine wpS_seq ?_
        refine wpS_region ?_
        refine s_y (v := .bool true) (y_assign rfl) rfl ?_
        refine wpL_nil ?_
        refine thenS_n ?_
        refine wpS_ret ?_
        refine fin1 (M := []) (v := .bool true) (.inr rfl) (.nil) Try.results10 rfl ?_
        exact fun w' hs => ⟨rfl, hs⟩

end Go.Proofs.Ytldkjjnjdjfipaa
