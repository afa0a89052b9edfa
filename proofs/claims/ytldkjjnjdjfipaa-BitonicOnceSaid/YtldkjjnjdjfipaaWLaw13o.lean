/- BitonicOnce, walked. -/
import Derived.Test.YtldkjjnjdjfipaaWNetS
namespace Go.Proofs.Ytldkjjnjdjfipaa
open Go Go.RowKit
set_option linter.unusedVariables false
set_option linter.unusedSimpArgs false
set_option maxRecDepth 10000
set_option maxHeartbeats 1000000

theorem bonce_law (n q : Int) (n1 : -9223372036854775808 ≤ n) (n2 : n < 9223372036854775808) (q1 : -9223372036854775808 ≤ q) (q2 : q < 9223372036854775808) (w : World) : Pure Try.prog 9 #[.int .i64 n, .int .i64 q] w (.bool true) := by
  refine calls_S (n := 92) (σ0 := (upd (upd fr0 0 (.int .i64 n)) 1 (.int .i64 q))) (D := []) (A := []) Try.func9 rfl Try.ntmps9 rfl (a2_fr _ _) (SH.start w) ?_
  have hur : u64of n % 8 < 8 := Nat.mod_lt _ (by decide)
  refine wpS_seq ?_
  refine wpS_region ?_
  refine s_y (v := .bool false) (y_assign rfl) rfl ?_
  refine wpL_nil ?_
  refine thenS_n ?_
  refine wpS_cut (fun ds σ L => ∃ K : Nat, (K < 8) ∧ ds = [] ∧ σ 0 = .int .i64 ((((2 ^ K) : Nat) : Int)) ∧ σ 1 = .int .i64 q ∧ Ent L []) ?_ ?_
  · -- up to the cut
    refine wpS_region ?_
    refine s_y (v := .int .i64 n) (y_move rfl) rfl ?_
    refine s_y (v := .int .u64 ((((u64of n) : Nat) : Int))) (y_convI (a := n) (c := (((u64of n) : Nat) : Int)) rfl Try.underlying3 Try.underlying46 (u64of_wrap _)) rfl ?_
    refine s_y (v := .int .u64 (((((u64of n) % 8) : Nat) : Int))) (y_rem (a := (((u64of n) : Nat) : Int)) (b := 8) (c := ((((u64of n) % 8) : Nat) : Int)) rfl rfl (by omega) (n_rem _ 8 (by omega))) rfl ?_
    refine s_y (v := .int .i64 ((((2 ^ ((u64of n) % 8)) : Nat) : Int))) (y_shl (a := 1) (b := ((((u64of n) % 8) : Nat) : Int)) (c := (((2 ^ ((u64of n) % 8)) : Nat) : Int)) rfl rfl (by omega) (z1_shl ((((u64of n) % 8) : Nat) : Int) (by omega) (by omega))) rfl ?_
    refine s_y (v := .int .i64 ((((2 ^ ((u64of n) % 8)) : Nat) : Int))) (y_assign rfl) rfl ?_
    refine wpL_nil ?_
    refine thenS_n ?_
    exact ⟨(u64of n % 8), by omega, rfl, rfl, rfl, .nil⟩
  rintro ds σ L ⟨K, hf0_1, rfl, h0_1, h1_1, hE_1⟩
  refine wpS_ent hE_1 ?_; clear hE_1
  have hK7 : K < 8 := by assumption
  have hp1 := Nat.two_pow_pos K
  have hp2 : 2 ^ K ≤ 128 := Nat.pow_le_pow_right (n := 2) (by decide) (show K ≤ 7 by omega)
  have hrt := rnd28 hK7
  have hum : 0 < rnd ((2 ^ K : Nat) : Int) → u64of q % rnd ((2 ^ K : Nat) : Int) < rnd ((2 ^ K : Nat) : Int) := Nat.mod_lt _
  refine wpS_seq ?_
  refine wpS_seq ?_
  refine wpS_region ?_
  refine s_y (v := .int .i64 ((((2 ^ K) : Nat) : Int))) (y_move h0_1) rfl ?_
  refine s_y (v := .int .i64 ((((rnd ((((2 ^ K) : Nat) : Int))) : Nat) : Int))) (y_call (args := #[.int .i64 ((((2 ^ K) : Nat) : Int))]) (v := .int .i64 ((((rnd ((((2 ^ K) : Nat) : Int))) : Nat) : Int))) Try.call52 (ev1 rfl) (fun w hs => rounds_c ((((2 ^ K) : Nat) : Int)) (by omega) (by omega) w)) rfl ?_
  refine s_y (v := .bool (decide (((rnd ((((2 ^ K) : Nat) : Int))) : Nat) = 0))) (y_eql (a := (((rnd ((((2 ^ K) : Nat) : Int))) : Nat) : Int)) (b := 0) (c := decide (((rnd ((((2 ^ K) : Nat) : Int))) : Nat) = 0)) rfl rfl (decide_eq_decide.2 (by omega))) rfl ?_
  refine wpL_nil ?_
  refine thenS_n ?_
  refine wpS_cond (t := decide (((rnd ((((2 ^ K) : Nat) : Int))) : Nat) = 0)) rfl (fun b2 => ?_) (fun b2 => ?_)
  · -- decide (((rnd ((((2 ^ K) : Nat) : Int))) : Nat) = 0) true
    have p2 := of_decide_eq_true b2
    refine wpS_seq ?_
    refine wpS_region ?_
    refine s_y (v := .bool true) (y_call (args := #[]) (v := .bool true) Try.call51 ev0 (fun w hs => awake13_c w)) rfl ?_
    refine s_y (v := .bool true) (y_move rfl) rfl ?_
    refine s_gy (y_move h0_1) rfl rfl rfl rfl rfl rfl ?_
    refine s_gy (y_eql (a := (((2 ^ K) : Nat) : Int)) (b := 1) (c := decide (((2 ^ K) : Nat) = 1)) rfl rfl (decide_eq_decide.2 (by omega))) rfl rfl rfl rfl rfl rfl ?_
    refine s_y (v := .bool (decide (((2 ^ K) : Nat) = 1))) (y_pickT (v := .bool (decide (((2 ^ K) : Nat) = 1))) rfl rfl rfl) rfl ?_
    refine s_y (v := .bool (decide (((2 ^ K) : Nat) = 1))) (y_assign rfl) rfl ?_
    refine wpL_nil ?_
    refine thenS_n ?_
    refine wpS_ret ?_
    refine thenS_r ?_
    refine fin1 (M := []) (v := .bool (decide (((2 ^ K) : Nat) = 1))) (.inr rfl) (.nil) Try.results9 rfl ?_
    exact fun w' hs => ⟨congrArg (fun b => Ending.returned (Value.bool b)) (by rw [rnd_zero (K := K) (by omega) (by omega)]; rfl), hs⟩
  · -- decide (((rnd ((((2 ^ K) : Nat) : Int))) : Nat) = 0) false
    have p2 := of_decide_eq_false b2
    refine wpS_skip ?_
    refine thenS_n ?_
    refine wpS_cut (fun ds σ L => ∃ r : Nat, (r < rnd ((2 ^ K : Nat) : Int)) ∧ ds = [] ∧ σ 0 = .int .i64 ((((2 ^ K) : Nat) : Int)) ∧ σ 1 = .int .i64 (((r : Nat) : Int)) ∧ Ent L []) ?_ ?_
    · -- up to the cut
      refine wpS_region ?_
      refine s_y (v := .int .i64 q) (y_move h1_1) rfl ?_
      refine s_y (v := .int .u64 ((((u64of q) : Nat) : Int))) (y_convI (a := q) (c := (((u64of q) : Nat) : Int)) rfl Try.underlying3 Try.underlying46 (u64of_wrap _)) rfl ?_
      refine s_y (v := .int .i64 ((((2 ^ K) : Nat) : Int))) (y_move h0_1) rfl ?_
      refine s_y (v := .int .i64 ((((rnd ((((2 ^ K) : Nat) : Int))) : Nat) : Int))) (y_call (args := #[.int .i64 ((((2 ^ K) : Nat) : Int))]) (v := .int .i64 ((((rnd ((((2 ^ K) : Nat) : Int))) : Nat) : Int))) Try.call52 (ev1 rfl) (fun w hs => rounds_c ((((2 ^ K) : Nat) : Int)) (by omega) (by omega) w)) rfl ?_
      refine s_y (v := .int .u64 ((((rnd ((((2 ^ K) : Nat) : Int))) : Nat) : Int))) (y_convI (a := (((rnd ((((2 ^ K) : Nat) : Int))) : Nat) : Int)) (c := (((rnd ((((2 ^ K) : Nat) : Int))) : Nat) : Int)) rfl Try.underlying3 Try.underlying46 (wU rfl (by omega) (by omega))) rfl ?_
      refine s_y (v := .int .u64 (((((u64of q) % (rnd ((((2 ^ K) : Nat) : Int)))) : Nat) : Int))) (y_rem (a := (((u64of q) : Nat) : Int)) (b := (((rnd ((((2 ^ K) : Nat) : Int))) : Nat) : Int)) (c := ((((u64of q) % (rnd ((((2 ^ K) : Nat) : Int)))) : Nat) : Int)) rfl rfl (by omega) (n_rem _ (rnd ((((2 ^ K) : Nat) : Int))) (by omega))) rfl ?_
      refine s_y (v := .int .i64 (((((u64of q) % (rnd ((((2 ^ K) : Nat) : Int)))) : Nat) : Int))) (y_convI (a := ((((u64of q) % (rnd ((((2 ^ K) : Nat) : Int)))) : Nat) : Int)) (c := ((((u64of q) % (rnd ((((2 ^ K) : Nat) : Int)))) : Nat) : Int)) rfl Try.underlying46 Try.underlying3 (wI rfl (by omega) (by omega))) rfl ?_
      refine s_y (v := .int .i64 (((((u64of q) % (rnd ((((2 ^ K) : Nat) : Int)))) : Nat) : Int))) (y_assign rfl) rfl ?_
      refine wpL_nil ?_
      refine thenS_n ?_
      exact ⟨(u64of q % (rnd ((2 ^ K : Nat) : Int))), (hum (by omega)), rfl, h0_1, rfl, .nil⟩
    rintro ds σ L ⟨r, hf0_3, rfl, h0_3, h1_3, hE_3⟩
    refine wpS_ent hE_3 ?_; clear hE_3
    have hfh := frs_half (K := K) (r := r) (by omega) (by omega)
    have hZl := frsZ_len ((2 ^ K : Nat) : Int) r
    have hYl := frsY_len ((2 ^ K : Nat) : Int) r
    refine wpS_seq ?_
    refine wpS_region ?_
    refine s_y (v := .int .i64 ((((2 ^ K) : Nat) : Int))) (y_move h0_3) rfl ?_
    refine s_y (v := .int .i64 (((r : Nat) : Int))) (y_move h1_3) rfl ?_
    refine s_e rfl ?_
    refine e_call (f := 53) (args := #[.int .i64 ((((2 ^ K) : Nat) : Int)), .int .i64 (((r : Nat) : Int))]) (X := Nat × Nat) (A := []) (M := []) (V := fun x : Nat × Nat => .func (.func 152) #[] #[.pointer (some ⟨x.1, 0, none⟩), .pointer (some ⟨x.2, 0, none⟩)]) (A' := fun x : Nat × Nat => [cel x.1 3 [.int .i64 ((((2 ^ K) : Nat) : Int))], cel x.2 3 [.int .i64 (((r : Nat) : Int))]]) (C := fun _ => True) Try.call53 (ev2 rfl rfl) (.nil) (fun w hs => round_c ((((2 ^ K) : Nat) : Int)) (((r : Nat) : Int)) w) ?_
    rintro ⟨b_4, b_5⟩ -
    refine s_y (v := .int .i64 ((((2 ^ K) : Nat) : Int))) (y_move h0_3) rfl ?_
    refine s_e rfl ?_
    refine e_call (f := 54) (args := #[.func (.func 152) #[] #[.pointer (some ⟨b_4, 0, none⟩), .pointer (some ⟨b_5, 0, none⟩)], .int .i64 ((((2 ^ K) : Nat) : Int))]) (X := (Option Addr × Nat) × (Option Addr × Nat)) (A := []) (M := [cel b_4 3 [.int .i64 ((((2 ^ K) : Nat) : Int))], cel b_5 3 [.int .i64 (((r : Nat) : Int))]]) (V := fun x => .tuple #[slV (frsZ ((((2 ^ K) : Nat) : Int)) (((r : Nat) : Int))) x.1, slV (frsY ((((2 ^ K) : Nat) : Int)) (((r : Nat) : Int))) x.2, .bool true]) (A' := fun x => [slR intV 1 3 (frsZ ((((2 ^ K) : Nat) : Int)) (((r : Nat) : Int))) x.1, slR intV 1 3 (frsY ((((2 ^ K) : Nat) : Int)) (((r : Nat) : Int))) x.2]) (C := fun _ => True) Try.call54 (ev2 rfl rfl) (.p .h (.p .h .nil)) (fun w hs => seq2r_c ((((2 ^ K) : Nat) : Int)) (((r : Nat) : Int)) (by omega) (by omega) (by omega) (by omega) b_4 b_5 (((2 ^ K) : Nat) : Int) w (own1 .h rfl w hs) (own1 (.t .h) rfl w hs) (by have := frs_len ((2 ^ K : Nat) : Int) r; omega) (by omega)) ?_
    rintro ⟨⟨a_6, c_7⟩, ⟨a_8, c_9⟩⟩ -
    refine s_y (v := .tuple #[.slice a_6 ((frsZ ((((2 ^ K) : Nat) : Int)) (((r : Nat) : Int))).length) c_7, .slice a_8 ((frsY ((((2 ^ K) : Nat) : Int)) (((r : Nat) : Int))).length) c_9, .bool true]) (y_move rfl) rfl ?_
    refine s_y (v := .slice a_6 ((frsZ ((((2 ^ K) : Nat) : Int)) (((r : Nat) : Int))).length) c_7) (y_extract (v := .slice a_6 ((frsZ ((((2 ^ K) : Nat) : Int)) (((r : Nat) : Int))).length) c_7) rfl rfl) rfl ?_
    refine s_y (v := .slice a_8 ((frsY ((((2 ^ K) : Nat) : Int)) (((r : Nat) : Int))).length) c_9) (y_extract (v := .slice a_8 ((frsY ((((2 ^ K) : Nat) : Int)) (((r : Nat) : Int))).length) c_9) rfl rfl) rfl ?_
    refine s_y (v := .bool true) (y_extract (v := .bool true) rfl rfl) rfl ?_
    refine s_y (v := .slice a_6 ((frsZ ((((2 ^ K) : Nat) : Int)) (((r : Nat) : Int))).length) c_7) (y_assign rfl) rfl ?_
    refine s_y (v := .slice a_8 ((frsY ((((2 ^ K) : Nat) : Int)) (((r : Nat) : Int))).length) c_9) (y_assign rfl) rfl ?_
    refine s_y (v := .bool true) (y_assign rfl) rfl ?_
    refine wpL_nil ?_
    refine thenS_n ?_
    refine wpS_seq ?_
    refine wpS_seq ?_
    refine wpS_region ?_
    refine s_y (v := .bool true) (y_call (args := #[]) (v := .bool true) Try.call51 ev0 (fun w hs => awake13_c w)) rfl ?_
    refine s_y (v := .bool false) (y_notK (b := true) (c := false) rfl rfl) rfl ?_
    refine s_y (v := .bool false) (y_move rfl) rfl ?_
    refine s_gy (y_move rfl) rfl rfl rfl rfl rfl rfl ?_
    refine s_gy (y_notK (b := true) (c := false) rfl rfl) rfl rfl rfl rfl rfl rfl ?_
    refine s_y (v := .bool false) (y_pickF (v := .bool false) rfl rfl rfl) rfl ?_
    refine s_y (v := .bool false) (y_move rfl) rfl ?_
    refine s_gy (y_move rfl) rfl rfl rfl rfl rfl rfl ?_
    refine s_gy (y_len (ty' := 0) (at_ := #[]) rfl Try.underlying39) rfl rfl rfl rfl rfl rfl ?_
    refine s_gy (y_move h0_3) rfl rfl rfl rfl rfl rfl ?_
    refine s_gy (y_quo (a := (((2 ^ K) : Nat) : Int)) (b := 2) (c := ((((2 ^ K) / 2) : Nat) : Int)) rfl rfl (by omega) (n_quo _ 2 (by omega) (by omega))) rfl rfl rfl rfl rfl rfl ?_
    refine s_gy (y_neq (a := (((frsZ ((((2 ^ K) : Nat) : Int)) (((r : Nat) : Int))).length : Nat) : Int)) (b := ((((2 ^ K) / 2) : Nat) : Int)) (c := decide (((frsZ ((((2 ^ K) : Nat) : Int)) (((r : Nat) : Int))).length) ≠ ((2 ^ K) / 2))) rfl rfl (decide_eq_decide.2 (by omega))) rfl rfl rfl rfl rfl rfl ?_
    refine s_y (v := .bool (decide (((frsZ ((((2 ^ K) : Nat) : Int)) (((r : Nat) : Int))).length) ≠ ((2 ^ K) / 2)))) (y_pickF (v := .bool (decide (((frsZ ((((2 ^ K) : Nat) : Int)) (((r : Nat) : Int))).length) ≠ ((2 ^ K) / 2)))) rfl rfl rfl) rfl ?_
    refine wpL_nil ?_
    refine thenS_n ?_
    refine wpS_cond_F (t := decide (((frsZ ((((2 ^ K) : Nat) : Int)) (((r : Nat) : Int))).length) ≠ ((2 ^ K) / 2))) rfl (decide_eq_false (by omega)) ?_
    refine wpS_skip ?_
    refine thenS_n ?_
    refine wpS_cut (fun ds σ L => ∃ ba : Option Addr, ds = [] ∧ σ 0 = .int .i64 ((((2 ^ K) : Nat) : Int)) ∧ σ 5 = .slice a_6 ((frsZ ((((2 ^ K) : Nat) : Int)) (((r : Nat) : Int))).length) c_7 ∧ σ 6 = .slice a_8 ((frsY ((((2 ^ K) : Nat) : Int)) (((r : Nat) : Int))).length) c_9 ∧ σ 8 = .slice ba (2 ^ K) (2 ^ K) ∧ Ent L [osl a_6 c_7 ((frsZ ((((2 ^ K) : Nat) : Int)) (((r : Nat) : Int))).length) 1 3 ((frsZ ((((2 ^ K) : Nat) : Int)) (((r : Nat) : Int))).flatMap intV), osl a_8 c_9 ((frsY ((((2 ^ K) : Nat) : Int)) (((r : Nat) : Int))).length) 1 3 ((frsY ((((2 ^ K) : Nat) : Int)) (((r : Nat) : Int))).flatMap intV), cel b_4 3 [.int .i64 ((((2 ^ K) : Nat) : Int))], cel b_5 3 [.int .i64 (((r : Nat) : Int))], osl ba (2 ^ K) (2 ^ K) 1 4 ((seenTo K r 0).flatMap boolV)]) ?_ ?_
    · -- up to the cut
      refine wpS_region ?_
      refine s_y (v := .int .i64 ((((2 ^ K) : Nat) : Int))) (y_move h0_3) rfl ?_
      refine s_e rfl ?_
      refine e_make (enc := boolV) (y0 := false) (m := (2 ^ K)) (c := (2 ^ K)) (bytes := 1) boolV_len (by decide) Try.underlying50 (i := Try.t4) rfl rfl rfl rfl rfl rfl rfl (by omega) (by omega) (by omega) ?_
      intro b_12
      refine s_y (v := .slice (some ⟨b_12, 0, none⟩) (2 ^ K) (2 ^ K)) (y_assign rfl) rfl ?_
      refine wpL_nil ?_
      refine thenS_n ?_
      rw [seenTo_0 K r]
      exact ⟨some ⟨b_12, 0, none⟩, rfl, h0_3, rfl, rfl, rfl, .p (.t .h) (.p (.t .h) (.p (.t .h) (.p (.t .h) (.p .h .nil))))⟩
    rintro ds σ L ⟨ba, rfl, h0_13, h5_13, h6_13, h8_13, hE_13⟩
    refine wpS_ent hE_13 ?_; clear hE_13
    refine wpS_seq ?_
    refine wpS_seq ?_
    refine wpS_region ?_
    refine s_y (v := .int .i64 0) (y_assign rfl) rfl ?_
    refine wpL_nil ?_
    refine thenS_n ?_
    refine wpS_block ?_
    refine wpS_loop (fun m ds σ L => ∃ i : Nat, m = (frsZ ((2 ^ K : Nat) : Int) r).length - i ∧ (i ≤ (frsZ ((2 ^ K : Nat) : Int) r).length) ∧ ds = [] ∧ σ 0 = .int .i64 ((((2 ^ K) : Nat) : Int)) ∧ σ 5 = .slice a_6 ((frsZ ((((2 ^ K) : Nat) : Int)) (((r : Nat) : Int))).length) c_7 ∧ σ 6 = .slice a_8 ((frsY ((((2 ^ K) : Nat) : Int)) (((r : Nat) : Int))).length) c_9 ∧ σ 8 = .slice ba (2 ^ K) (2 ^ K) ∧ σ 9 = .int .i64 (((i : Nat) : Int)) ∧ Ent L [osl a_6 c_7 ((frsZ ((((2 ^ K) : Nat) : Int)) (((r : Nat) : Int))).length) 1 3 ((frsZ ((((2 ^ K) : Nat) : Int)) (((r : Nat) : Int))).flatMap intV), osl a_8 c_9 ((frsY ((((2 ^ K) : Nat) : Int)) (((r : Nat) : Int))).length) 1 3 ((frsY ((((2 ^ K) : Nat) : Int)) (((r : Nat) : Int))).flatMap intV), cel b_4 3 [.int .i64 ((((2 ^ K) : Nat) : Int))], cel b_5 3 [.int .i64 (((r : Nat) : Int))], osl ba (2 ^ K) (2 ^ K) 1 4 ((seenTo K r i).flatMap boolV)]) (m0 := (frsZ ((2 ^ K : Nat) : Int) r).length - 0) ⟨0, rfl, by omega, rfl, h0_13, h5_13, h6_13, h8_13, rfl, .p .h (.p .h (.p .h (.p .h (.p .h .nil))))⟩ ?_
    rintro m ds σ L ⟨i, hm_14, hf0_14, rfl, h0_14, h5_14, h6_14, h8_14, h9_14, hE_14⟩
    refine wpS_ent hE_14 ?_; clear hE_14
    have hsl := seenTo_len K r i
    refine wpS_seq ?_
    refine wpS_seq ?_
    refine wpS_region ?_
    refine s_y (v := .int .i64 (((i : Nat) : Int))) (y_move h9_14) rfl ?_
    refine s_y (v := .slice a_6 ((frsZ ((((2 ^ K) : Nat) : Int)) (((r : Nat) : Int))).length) c_7) (y_move h5_14) rfl ?_
    refine s_y (v := .int .i64 ((((frsZ ((((2 ^ K) : Nat) : Int)) (((r : Nat) : Int))).length : Nat) : Int))) (y_len (ty' := 0) (at_ := #[]) rfl Try.underlying39) rfl ?_
    refine s_y (v := .bool (decide (i < ((frsZ ((((2 ^ K) : Nat) : Int)) (((r : Nat) : Int))).length)))) (y_lss (a := ((i : Nat) : Int)) (b := (((frsZ ((((2 ^ K) : Nat) : Int)) (((r : Nat) : Int))).length : Nat) : Int)) (c := decide (i < ((frsZ ((((2 ^ K) : Nat) : Int)) (((r : Nat) : Int))).length))) rfl rfl (decide_eq_decide.2 (by omega))) rfl ?_
    refine wpL_nil ?_
    refine thenS_n ?_
    refine wpS_cond (t := decide (i < ((frsZ ((((2 ^ K) : Nat) : Int)) (((r : Nat) : Int))).length))) rfl (fun b15 => ?_) (fun b15 => ?_)
    · -- decide (i < ((frsZ ((((2 ^ K) : Nat) : Int)) (((r : Nat) : Int))).length)) true
      have p15 := of_decide_eq_true b15
      obtain ⟨pa, hfi⟩ := pairK (K := K) (r := r) (i := i) (by omega) (by omega) (by rw [← frsZ_len]; omega)
      have hzz := hfi.z
      have hyy := hfi.y
      have hlt := hfi.lt
      have hdp := Nat.two_pow_pos ((stK K r).2 - 1)
      refine wpS_skip ?_
      refine thenS_n ?_
      refine wpS_seq ?_
      refine wpS_block ?_
      refine wpS_seq ?_
      refine wpS_anyL [osl a_6 c_7 ((frsZ ((((2 ^ K) : Nat) : Int)) (((r : Nat) : Int))).length) 1 3 ((frsZ ((((2 ^ K) : Nat) : Int)) (((r : Nat) : Int))).flatMap intV), osl a_8 c_9 ((frsY ((((2 ^ K) : Nat) : Int)) (((r : Nat) : Int))).length) 1 3 ((frsY ((((2 ^ K) : Nat) : Int)) (((r : Nat) : Int))).flatMap intV)] [] (by kernel_rfl) ?_
      refine anyS_take (i := 0) rfl (by kernel_rfl) (by kernel_rfl) (by kernel_rfl) (by kernel_rfl) (Yq.of (v := .slice a_6 ((frsZ ((((2 ^ K) : Nat) : Int)) (((r : Nat) : Int))).length) c_7) (y_move h5_14) rfl) (.p .h (.p .h .nil)) ?_
      refine anyS_take (i := 1) rfl (by kernel_rfl) (by kernel_rfl) (by kernel_rfl) (by kernel_rfl) (Yq.of (v := .int .i64 (((i : Nat) : Int))) (y_move h9_14) rfl) (.p .h (.p .h .nil)) ?_
      refine anyS_take (i := 2) rfl (by kernel_rfl) (by kernel_rfl) (by kernel_rfl) (by kernel_rfl) (Yq.of (v := .pointer (some ⟨aB a_6, aO a_6 + i * 1, none⟩)) (y_idx (o := i * 1) rfl rfl Try.underlying39 Try.sizeOf3 (oslR .h) (fl_len intV_len _) (by decide) (by omega) (by omega) (by omega)) rfl) (.p .h (.p .h .nil)) ?_
      refine anyS_take (i := 3) rfl (by kernel_rfl) (by kernel_rfl) (by kernel_rfl) (by kernel_rfl) (Yq.of (v := .int .i64 (((frsZ ((((2 ^ K) : Nat) : Int)) (((r : Nat) : Int))).getD i default))) (y_load1 (v := .int .i64 (((frsZ ((((2 ^ K) : Nat) : Int)) (((r : Nat) : Int))).getD i default))) rfl Try.isAgg3 (rd1 (k := i * 1) (oslR .h) (fl_get0 intV_len (frsZ ((((2 ^ K) : Nat) : Int)) (((r : Nat) : Int))) i (by first | omega | (simp only [List.length_set, List.length_take, List.length_drop]; done) | (simp only [List.length_set, List.length_take, List.length_drop]; omega)) rfl))) rfl) (.p .h (.p .h .nil)) ?_
      refine anyS_take (i := 4) rfl (by kernel_rfl) (by kernel_rfl) (by kernel_rfl) (by kernel_rfl) (Yq.of (v := .slice a_8 ((frsY ((((2 ^ K) : Nat) : Int)) (((r : Nat) : Int))).length) c_9) (y_move h6_14) rfl) (.p .h (.p .h .nil)) ?_
      refine anyS_take (i := 5) rfl (by kernel_rfl) (by kernel_rfl) (by kernel_rfl) (by kernel_rfl) (Yq.of (v := .int .i64 (((i : Nat) : Int))) (y_move h9_14) rfl) (.p .h (.p .h .nil)) ?_
      refine anyS_take (i := 6) rfl (by kernel_rfl) (by kernel_rfl) (by kernel_rfl) (by kernel_rfl) (Yq.of (v := .pointer (some ⟨aB a_8, aO a_8 + i * 1, none⟩)) (y_idx (o := i * 1) rfl rfl Try.underlying39 Try.sizeOf3 (oslR (.t .h)) (fl_len intV_len _) (by decide) (by omega) (by omega) (by omega)) rfl) (.p .h (.p .h .nil)) ?_
      refine anyS_take (i := 7) rfl (by kernel_rfl) (by kernel_rfl) (by kernel_rfl) (by kernel_rfl) (Yq.of (v := .int .i64 (((frsY ((((2 ^ K) : Nat) : Int)) (((r : Nat) : Int))).getD i default))) (y_load1 (v := .int .i64 (((frsY ((((2 ^ K) : Nat) : Int)) (((r : Nat) : Int))).getD i default))) rfl Try.isAgg3 (rd1 (k := i * 1) (oslR (.t .h)) (fl_get0 intV_len (frsY ((((2 ^ K) : Nat) : Int)) (((r : Nat) : Int))) i (by first | omega | (simp only [List.length_set, List.length_take, List.length_drop]; done) | (simp only [List.length_set, List.length_take, List.length_drop]; omega)) rfl))) rfl) (.p .h (.p .h .nil)) ?_
      refine anyS_take (i := 10) rfl (by kernel_rfl) (by kernel_rfl) (by kernel_rfl) (by kernel_rfl) (Yq.of (v := .int .i64 0) (y_move rfl) rfl) (.p .h (.p .h .nil)) ?_
      refine anyS_all (rs := [8]) (by kernel_rfl) (by simp) ?_
      intro i hi; obtain rfl := List.mem_singleton.1 hi; clear hi
      refine opS_0 rfl rfl ?_
      refine e_bsliceL (e := 3) (m := [(0, .int .i64 (((frsZ ((((2 ^ K) : Nat) : Int)) (((r : Nat) : Int))).getD i default))), (1, .int .i64 (((frsY ((((2 ^ K) : Nat) : Int)) (((r : Nat) : Int))).getD i default)))]) (l := [.int .i64 (((frsZ ((((2 ^ K) : Nat) : Int)) (((r : Nat) : Int))).getD i default)), .int .i64 (((frsY ((((2 ^ K) : Nat) : Int)) (((r : Nat) : Int))).getD i default))]) (evc rfl (evc rfl evn)) (fun w => by kernel_rfl) ?_
      intro b_16
      refine ⟨.inr (.p (.t .h) (.p (.t .h) .nil)), ?_⟩
      refine anyS_take (i := 9) rfl (by kernel_rfl) (by kernel_rfl) (by kernel_rfl) (by kernel_rfl) (Yq.of (v := .int .i64 2) (y_len (ty' := 0) (at_ := #[]) rfl Try.underlying39) rfl) (.p (.t .h) (.p (.t .h) .nil)) ?_
      refine anyS_done (by kernel_rfl) ?_
      refine thenS_n ?_
      refine wpS_block ?_
      refine wpS_unroll ?_
      refine wpI_step ?_
      refine wpS_seq ?_
      refine wpS_region ?_
      refine s_y (v := .bool true) (y_lss (a := 0) (b := 2) rfl rfl (by decide)) rfl ?_
      refine wpL_nil ?_
      refine thenS_n ?_
      refine wpS_seq ?_
      refine wpS_cond_t rfl ?_
      refine wpS_skip ?_
      refine thenS_n ?_
      refine wpS_seq ?_
      refine wpS_block ?_
      refine wpS_seq ?_
      refine wpS_region ?_
      refine s_y (v := .pointer (some ⟨b_16, 0, none⟩)) (y_idxS (o' := 0) rfl rfl Try.underlying39 Try.sizeOf3 (by decide) (by decide) (by decide)) rfl ?_
      refine s_y (v := .int .i64 (((frsZ ((((2 ^ K) : Nat) : Int)) (((r : Nat) : Int))).getD i default))) (y_load1 rfl Try.isAgg3 (own1 .h rfl)) rfl ?_
      refine s_y (v := .int .i64 (((frsZ ((((2 ^ K) : Nat) : Int)) (((r : Nat) : Int))).getD i default))) (y_assign rfl) rfl ?_
      refine wpL_nil ?_
      refine thenS_n ?_
      refine wpS_seq ?_
      refine wpS_seq ?_
      refine wpS_region ?_
      refine s_y (v := .int .i64 (((frsZ ((((2 ^ K) : Nat) : Int)) (((r : Nat) : Int))).getD i default))) (y_move rfl) rfl ?_
      refine s_y (v := .bool (decide ((((frsZ ((((2 ^ K) : Nat) : Int)) (((r : Nat) : Int))).getD i default) : Int) < 0))) (y_lss (a := ((frsZ ((((2 ^ K) : Nat) : Int)) (((r : Nat) : Int))).getD i default)) (b := 0) rfl rfl rfl) rfl ?_
      refine s_y (v := .bool (decide ((((frsZ ((((2 ^ K) : Nat) : Int)) (((r : Nat) : Int))).getD i default) : Int) < 0))) (y_move rfl) rfl ?_
      refine s_gy (y_move rfl) rfl rfl rfl rfl (b' := decide ((((frsZ ((((2 ^ K) : Nat) : Int)) (((r : Nat) : Int))).getD i default) : Int) < 0)) rfl (decide_eq_false (by omega)) ?_
      refine s_gy (y_move h0_14) rfl rfl rfl rfl (b' := decide ((((frsZ ((((2 ^ K) : Nat) : Int)) (((r : Nat) : Int))).getD i default) : Int) < 0)) rfl (decide_eq_false (by omega)) ?_
      refine s_gy (y_geq (a := ((frsZ ((((2 ^ K) : Nat) : Int)) (((r : Nat) : Int))).getD i default)) (b := (((2 ^ K) : Nat) : Int)) rfl rfl rfl) rfl rfl rfl rfl (b' := decide ((((frsZ ((((2 ^ K) : Nat) : Int)) (((r : Nat) : Int))).getD i default) : Int) < 0)) rfl (decide_eq_false (by omega)) ?_
      refine s_y (v := .bool (decide (((((2 ^ K) : Nat) : Int) : Int) ≤ ((frsZ ((((2 ^ K) : Nat) : Int)) (((r : Nat) : Int))).getD i default)))) (y_pickF (b := decide ((((frsZ ((((2 ^ K) : Nat) : Int)) (((r : Nat) : Int))).getD i default) : Int) < 0)) (v := .bool (decide (((((2 ^ K) : Nat) : Int) : Int) ≤ ((frsZ ((((2 ^ K) : Nat) : Int)) (((r : Nat) : Int))).getD i default)))) rfl (decide_eq_false (by omega)) rfl) rfl ?_
      refine s_y (v := .bool (decide (((((2 ^ K) : Nat) : Int) : Int) ≤ ((frsZ ((((2 ^ K) : Nat) : Int)) (((r : Nat) : Int))).getD i default)))) (y_move rfl) rfl ?_
      refine s_gy (y_move h8_14) rfl rfl rfl rfl (b' := decide (((((2 ^ K) : Nat) : Int) : Int) ≤ ((frsZ ((((2 ^ K) : Nat) : Int)) (((r : Nat) : Int))).getD i default))) rfl (decide_eq_false (by omega)) ?_
      refine s_gy (y_move rfl) rfl rfl rfl rfl (b' := decide (((((2 ^ K) : Nat) : Int) : Int) ≤ ((frsZ ((((2 ^ K) : Nat) : Int)) (((r : Nat) : Int))).getD i default))) rfl (decide_eq_false (by omega)) ?_
      refine s_gy (y_idx (o := ((((frsZ ((((2 ^ K) : Nat) : Int)) (((r : Nat) : Int))).getD i default)).toNat) * 1) rfl rfl Try.underlying50 Try.sizeOf4 (oslR (.t (.t (.t (.t (.t .h)))))) ((fl_len boolV_len _).trans (by first | omega | (simp only [List.length_set, List.length_take, List.length_drop]; done) | (simp only [List.length_set, List.length_take, List.length_drop]; omega))) (by decide) (by omega) (by omega) (by omega)) rfl rfl rfl rfl (b' := decide (((((2 ^ K) : Nat) : Int) : Int) ≤ ((frsZ ((((2 ^ K) : Nat) : Int)) (((r : Nat) : Int))).getD i default))) rfl (decide_eq_false (by omega)) ?_
      refine s_gy (y_load1 (v := .bool (((seenTo K r i).getD ((((frsZ ((((2 ^ K) : Nat) : Int)) (((r : Nat) : Int))).getD i default)).toNat) default))) rfl Try.isAgg4 (rd1 (k := ((((frsZ ((((2 ^ K) : Nat) : Int)) (((r : Nat) : Int))).getD i default)).toNat) * 1) (oslR (.t (.t (.t (.t (.t .h)))))) (fl_get0 boolV_len (seenTo K r i) ((((frsZ ((((2 ^ K) : Nat) : Int)) (((r : Nat) : Int))).getD i default)).toNat) (by first | omega | (simp only [List.length_set, List.length_take, List.length_drop]; done) | (simp only [List.length_set, List.length_take, List.length_drop]; omega)) rfl))) rfl rfl rfl rfl (b' := decide (((((2 ^ K) : Nat) : Int) : Int) ≤ ((frsZ ((((2 ^ K) : Nat) : Int)) (((r : Nat) : Int))).getD i default))) rfl (decide_eq_false (by omega)) ?_
      refine s_y (v := .bool (((seenTo K r i).getD ((((frsZ ((((2 ^ K) : Nat) : Int)) (((r : Nat) : Int))).getD i default)).toNat) default))) (y_pickF (b := decide (((((2 ^ K) : Nat) : Int) : Int) ≤ ((frsZ ((((2 ^ K) : Nat) : Int)) (((r : Nat) : Int))).getD i default))) (v := .bool (((seenTo K r i).getD ((((frsZ ((((2 ^ K) : Nat) : Int)) (((r : Nat) : Int))).getD i default)).toNat) default))) rfl (decide_eq_false (by omega)) rfl) rfl ?_
      refine wpL_nil ?_
      refine thenS_n ?_
      refine wpS_cond_F (t := ((seenTo K r i).getD ((((frsZ ((((2 ^ K) : Nat) : Int)) (((r : Nat) : Int))).getD i default)).toNat) default)) rfl (seen_no1 (by omega) (by omega) (by omega) hfi) ?_
      refine wpS_skip ?_
      refine thenS_n ?_
      refine wpS_region ?_
      refine s_y (v := .slice ba (2 ^ K) (2 ^ K)) (y_move h8_14) rfl ?_
      refine s_y (v := .int .i64 (((frsZ ((((2 ^ K) : Nat) : Int)) (((r : Nat) : Int))).getD i default))) (y_move rfl) rfl ?_
      refine s_y (v := .pointer (some ⟨aB ba, aO ba + ((((frsZ ((((2 ^ K) : Nat) : Int)) (((r : Nat) : Int))).getD i default)).toNat) * 1, none⟩)) (y_idx (o := ((((frsZ ((((2 ^ K) : Nat) : Int)) (((r : Nat) : Int))).getD i default)).toNat) * 1) rfl rfl Try.underlying50 Try.sizeOf4 (oslR (.t (.t (.t (.t (.t .h)))))) ((fl_len boolV_len _).trans (by first | omega | (simp only [List.length_set, List.length_take, List.length_drop]; done) | (simp only [List.length_set, List.length_take, List.length_drop]; omega))) (by decide) (by omega) (by omega) (by omega)) rfl ?_
      refine s_e0 ?_
      refine e_storeL' (enc := boolV) (xs := (seenTo K r i)) (y := true) (zs := ((seenTo K r i).set ((((frsZ ((((2 ^ K) : Nat) : Int)) (((r : Nat) : Int))).getD i default)).toNat) true)) boolV_len boolV_one (by decide) rfl rfl rfl Try.sizeOf4 (.t (.t (.t (.t (.t .h))))) (by (try simp only [List.length_set]); omega) rfl ?_
      refine wpL_nil ?_
      refine blockS_n ?_
      refine thenS_n ?_
      refine wpS_region ?_
      refine s_y (v := .int .i64 1) (y_add (a := 0) (b := 1) (c := 1) rfl rfl (by decide)) rfl ?_
      refine s_y (v := .int .i64 1) (y_move rfl) rfl ?_
      refine wpL_nil ?_
      refine thenS_n ?_
      refine wpI_step ?_
      refine wpS_seq ?_
      refine wpS_region ?_
      refine s_y (v := .bool true) (y_lss (a := 1) (b := 2) rfl rfl (by decide)) rfl ?_
      refine wpL_nil ?_
      refine thenS_n ?_
      refine wpS_seq ?_
      refine wpS_cond_t rfl ?_
      refine wpS_skip ?_
      refine thenS_n ?_
      refine wpS_seq ?_
      refine wpS_block ?_
      refine wpS_seq ?_
      refine wpS_region ?_
      refine s_y (v := .pointer (some ⟨b_16, 1, none⟩)) (y_idxS (o' := 1) rfl rfl Try.underlying39 Try.sizeOf3 (by decide) (by decide) (by decide)) rfl ?_
      refine s_y (v := .int .i64 (((frsY ((((2 ^ K) : Nat) : Int)) (((r : Nat) : Int))).getD i default))) (y_load1 rfl Try.isAgg3 (own1 (.t .h) rfl)) rfl ?_
      refine s_y (v := .int .i64 (((frsY ((((2 ^ K) : Nat) : Int)) (((r : Nat) : Int))).getD i default))) (y_assign rfl) rfl ?_
      refine wpL_nil ?_
      refine thenS_n ?_
      refine wpS_seq ?_
      refine wpS_seq ?_
      refine wpS_region ?_
      refine s_y (v := .int .i64 (((frsY ((((2 ^ K) : Nat) : Int)) (((r : Nat) : Int))).getD i default))) (y_move rfl) rfl ?_
      refine s_y (v := .bool (decide ((((frsY ((((2 ^ K) : Nat) : Int)) (((r : Nat) : Int))).getD i default) : Int) < 0))) (y_lss (a := ((frsY ((((2 ^ K) : Nat) : Int)) (((r : Nat) : Int))).getD i default)) (b := 0) rfl rfl rfl) rfl ?_
      refine s_y (v := .bool (decide ((((frsY ((((2 ^ K) : Nat) : Int)) (((r : Nat) : Int))).getD i default) : Int) < 0))) (y_move rfl) rfl ?_
      refine s_gy (y_move rfl) rfl rfl rfl rfl (b' := decide ((((frsY ((((2 ^ K) : Nat) : Int)) (((r : Nat) : Int))).getD i default) : Int) < 0)) rfl (decide_eq_false (by omega)) ?_
      refine s_gy (y_move h0_14) rfl rfl rfl rfl (b' := decide ((((frsY ((((2 ^ K) : Nat) : Int)) (((r : Nat) : Int))).getD i default) : Int) < 0)) rfl (decide_eq_false (by omega)) ?_
      refine s_gy (y_geq (a := ((frsY ((((2 ^ K) : Nat) : Int)) (((r : Nat) : Int))).getD i default)) (b := (((2 ^ K) : Nat) : Int)) rfl rfl rfl) rfl rfl rfl rfl (b' := decide ((((frsY ((((2 ^ K) : Nat) : Int)) (((r : Nat) : Int))).getD i default) : Int) < 0)) rfl (decide_eq_false (by omega)) ?_
      refine s_y (v := .bool (decide (((((2 ^ K) : Nat) : Int) : Int) ≤ ((frsY ((((2 ^ K) : Nat) : Int)) (((r : Nat) : Int))).getD i default)))) (y_pickF (b := decide ((((frsY ((((2 ^ K) : Nat) : Int)) (((r : Nat) : Int))).getD i default) : Int) < 0)) (v := .bool (decide (((((2 ^ K) : Nat) : Int) : Int) ≤ ((frsY ((((2 ^ K) : Nat) : Int)) (((r : Nat) : Int))).getD i default)))) rfl (decide_eq_false (by omega)) rfl) rfl ?_
      refine s_y (v := .bool (decide (((((2 ^ K) : Nat) : Int) : Int) ≤ ((frsY ((((2 ^ K) : Nat) : Int)) (((r : Nat) : Int))).getD i default)))) (y_move rfl) rfl ?_
      refine s_gy (y_move h8_14) rfl rfl rfl rfl (b' := decide (((((2 ^ K) : Nat) : Int) : Int) ≤ ((frsY ((((2 ^ K) : Nat) : Int)) (((r : Nat) : Int))).getD i default))) rfl (decide_eq_false (by omega)) ?_
      refine s_gy (y_move rfl) rfl rfl rfl rfl (b' := decide (((((2 ^ K) : Nat) : Int) : Int) ≤ ((frsY ((((2 ^ K) : Nat) : Int)) (((r : Nat) : Int))).getD i default))) rfl (decide_eq_false (by omega)) ?_
      refine s_gy (y_idx (o := ((((frsY ((((2 ^ K) : Nat) : Int)) (((r : Nat) : Int))).getD i default)).toNat) * 1) rfl rfl Try.underlying50 Try.sizeOf4 (oslR .h) ((fl_len boolV_len _).trans (by first | omega | (simp only [List.length_set, List.length_take, List.length_drop]; done) | (simp only [List.length_set, List.length_take, List.length_drop]; omega))) (by decide) (by omega) (by omega) (by omega)) rfl rfl rfl rfl (b' := decide (((((2 ^ K) : Nat) : Int) : Int) ≤ ((frsY ((((2 ^ K) : Nat) : Int)) (((r : Nat) : Int))).getD i default))) rfl (decide_eq_false (by omega)) ?_
      refine s_gy (y_load1 (v := .bool ((((seenTo K r i).set ((((frsZ ((((2 ^ K) : Nat) : Int)) (((r : Nat) : Int))).getD i default)).toNat) true).getD ((((frsY ((((2 ^ K) : Nat) : Int)) (((r : Nat) : Int))).getD i default)).toNat) default))) rfl Try.isAgg4 (rd1 (k := ((((frsY ((((2 ^ K) : Nat) : Int)) (((r : Nat) : Int))).getD i default)).toNat) * 1) (oslR .h) (fl_get0 boolV_len ((seenTo K r i).set ((((frsZ ((((2 ^ K) : Nat) : Int)) (((r : Nat) : Int))).getD i default)).toNat) true) ((((frsY ((((2 ^ K) : Nat) : Int)) (((r : Nat) : Int))).getD i default)).toNat) (by first | omega | (simp only [List.length_set, List.length_take, List.length_drop]; done) | (simp only [List.length_set, List.length_take, List.length_drop]; omega)) rfl))) rfl rfl rfl rfl (b' := decide (((((2 ^ K) : Nat) : Int) : Int) ≤ ((frsY ((((2 ^ K) : Nat) : Int)) (((r : Nat) : Int))).getD i default))) rfl (decide_eq_false (by omega)) ?_
      refine s_y (v := .bool ((((seenTo K r i).set ((((frsZ ((((2 ^ K) : Nat) : Int)) (((r : Nat) : Int))).getD i default)).toNat) true).getD ((((frsY ((((2 ^ K) : Nat) : Int)) (((r : Nat) : Int))).getD i default)).toNat) default))) (y_pickF (b := decide (((((2 ^ K) : Nat) : Int) : Int) ≤ ((frsY ((((2 ^ K) : Nat) : Int)) (((r : Nat) : Int))).getD i default))) (v := .bool ((((seenTo K r i).set ((((frsZ ((((2 ^ K) : Nat) : Int)) (((r : Nat) : Int))).getD i default)).toNat) true).getD ((((frsY ((((2 ^ K) : Nat) : Int)) (((r : Nat) : Int))).getD i default)).toNat) default))) rfl (decide_eq_false (by omega)) rfl) rfl ?_
      refine wpL_nil ?_
      refine thenS_n ?_
      refine wpS_cond_F (t := (((seenTo K r i).set ((((frsZ ((((2 ^ K) : Nat) : Int)) (((r : Nat) : Int))).getD i default)).toNat) true).getD ((((frsY ((((2 ^ K) : Nat) : Int)) (((r : Nat) : Int))).getD i default)).toNat) default)) rfl (seen_no2 (by omega) (by omega) (by omega) hfi) ?_
      refine wpS_skip ?_
      refine thenS_n ?_
      refine wpS_region ?_
      refine s_y (v := .slice ba (2 ^ K) (2 ^ K)) (y_move h8_14) rfl ?_
      refine s_y (v := .int .i64 (((frsY ((((2 ^ K) : Nat) : Int)) (((r : Nat) : Int))).getD i default))) (y_move rfl) rfl ?_
      refine s_y (v := .pointer (some ⟨aB ba, aO ba + ((((frsY ((((2 ^ K) : Nat) : Int)) (((r : Nat) : Int))).getD i default)).toNat) * 1, none⟩)) (y_idx (o := ((((frsY ((((2 ^ K) : Nat) : Int)) (((r : Nat) : Int))).getD i default)).toNat) * 1) rfl rfl Try.underlying50 Try.sizeOf4 (oslR .h) ((fl_len boolV_len _).trans (by first | omega | (simp only [List.length_set, List.length_take, List.length_drop]; done) | (simp only [List.length_set, List.length_take, List.length_drop]; omega))) (by decide) (by omega) (by omega) (by omega)) rfl ?_
      refine s_e0 ?_
      refine e_storeL' (enc := boolV) (xs := ((seenTo K r i).set ((((frsZ ((((2 ^ K) : Nat) : Int)) (((r : Nat) : Int))).getD i default)).toNat) true)) (y := true) (zs := (seenTo K r (i + 1))) boolV_len boolV_one (by decide) rfl rfl rfl Try.sizeOf4 .h (by (try simp only [List.length_set]); omega) (seen_set (by omega) (by omega) (by omega) hfi) ?_
      refine wpL_nil ?_
      refine blockS_n ?_
      refine thenS_n ?_
      refine wpS_region ?_
      refine s_y (v := .int .i64 2) (y_add (a := 1) (b := 1) (c := 2) rfl rfl (by decide)) rfl ?_
      refine s_y (v := .int .i64 2) (y_move rfl) rfl ?_
      refine wpL_nil ?_
      refine thenS_n ?_
      refine wpI_step ?_
      refine wpS_seq ?_
      refine wpS_region ?_
      refine s_y (v := .bool false) (y_lss (a := 2) (b := 2) rfl rfl (by decide)) rfl ?_
      refine wpL_nil ?_
      refine thenS_n ?_
      refine wpS_seq ?_
      refine wpS_cond_f rfl ?_
      refine wpS_exit ?_
      refine thenS_x ?_
      refine thenS_x ?_
      refine blockS_h ?_
      refine blockS_n ?_
      refine thenS_n ?_
      refine wpS_region ?_
      refine s_y (v := .int .i64 (((i : Nat) : Int))) (y_move h9_14) rfl ?_
      refine s_y (v := .int .i64 ((((i + 1) : Nat) : Int))) (y_add (a := ((i : Nat) : Int)) (b := 1) (c := (((i + 1) : Nat) : Int)) rfl rfl (wI (by omega) (by omega) (by omega))) rfl ?_
      refine s_y (v := .int .i64 ((((i + 1) : Nat) : Int))) (y_assign rfl) rfl ?_
      refine wpL_nil ?_
      refine thenS_n ?_
      exact ⟨_, by omega, ⟨(i + 1), rfl, by omega, rfl, h0_14, h5_14, h6_14, h8_14, rfl, .p (.t (.t .h)) (.p (.t (.t .h)) (.p (.t (.t .h)) (.p (.t (.t .h)) (.p .h .nil))))⟩⟩
    · -- decide (i < ((frsZ ((((2 ^ K) : Nat) : Int)) (((r : Nat) : Int))).length)) false
      have p15 := of_decide_eq_false b15
      refine wpS_exit ?_
      refine thenS_x ?_
      refine thenS_x ?_
      refine blockS_h ?_
      refine thenS_n ?_
      refine wpS_seq ?_
      refine wpS_region ?_
      refine s_y (v := .bool true) (y_assign rfl) rfl ?_
      refine wpL_nil ?_
      refine thenS_n ?_
      refine wpS_ret ?_
      refine fin1 (M := []) (v := .bool true) (.inr rfl) (.nil) Try.results9 rfl ?_
      exact fun w' hs => ⟨rfl, hs⟩

end Go.Proofs.Ytldkjjnjdjfipaa
