/- BitonicSorts, walked. -/
import Derived.Test.YtldkjjnjdjfipaaWNetI
namespace Go.Proofs.Ytldkjjnjdjfipaa
open Go Go.RowKit
set_option linter.unusedVariables false
set_option linter.unusedSimpArgs false
set_option maxRecDepth 10000
set_option maxHeartbeats 1000000

theorem bsorts_law (a : Option Addr) (n c : Nat) (l : List Int64) (q : Int) (q1 : -9223372036854775808 ≤ q) (q2 : q < 9223372036854775808) (w : World) (hn : l.length = n) (hc : n ≤ c) (hr : Rds w a (l.flatMap i64V)) : Pure Try.prog 8 #[.slice a n c, .int .i64 q] w (.bool true) := by
  refine calls_S (n := 137) (σ0 := (upd (upd fr0 0 (.slice a n c)) 1 (.int .i64 q))) (D := []) (A := []) Try.func8 rfl Try.ntmps8 rfl (a2_fr _ _) (SH.start w) ?_
  have hur : u64of q % 7 < 7 := Nat.mod_lt _ (by decide)
  refine wpS_seq ?_
  refine wpS_region ?_
  refine s_y (v := .bool false) (y_assign rfl) rfl ?_
  refine wpL_nil ?_
  refine thenS_n ?_
  refine wpS_cut (fun ds σ L => ∃ K : Nat, (K < 7) ∧ ds = [] ∧ σ 0 = .slice a n c ∧ σ 1 = .int .i64 ((((2 ^ K) : Nat) : Int)) ∧ Ent L []) ?_ ?_
  · -- up to the cut
    refine wpS_region ?_
    refine s_y (v := .int .i64 q) (y_move rfl) rfl ?_
    refine s_y (v := .int .u64 ((((u64of q) : Nat) : Int))) (y_convI (a := q) (c := (((u64of q) : Nat) : Int)) rfl Try.underlying3 Try.underlying46 (u64of_wrap _)) rfl ?_
    refine s_y (v := .int .u64 (((((u64of q) % 7) : Nat) : Int))) (y_rem (a := (((u64of q) : Nat) : Int)) (b := 7) (c := ((((u64of q) % 7) : Nat) : Int)) rfl rfl (by omega) (n_rem _ 7 (by omega))) rfl ?_
    refine s_y (v := .int .i64 ((((2 ^ ((u64of q) % 7)) : Nat) : Int))) (y_shl (a := 1) (b := ((((u64of q) % 7) : Nat) : Int)) (c := (((2 ^ ((u64of q) % 7)) : Nat) : Int)) rfl rfl (by omega) (z1_shl ((((u64of q) % 7) : Nat) : Int) (by omega) (by omega))) rfl ?_
    refine s_y (v := .int .i64 ((((2 ^ ((u64of q) % 7)) : Nat) : Int))) (y_assign rfl) rfl ?_
    refine wpL_nil ?_
    refine thenS_n ?_
    exact ⟨(u64of q % 7), by omega, rfl, rfl, rfl, .nil⟩
  rintro ds σ L ⟨K, hf0_1, rfl, h0_1, h1_1, hE_1⟩
  refine wpS_ent hE_1 ?_; clear hE_1
  have hK7 : K < 7 := by assumption
  have hp1 := Nat.two_pow_pos K
  have hp2 : 2 ^ K ≤ 64 := Nat.pow_le_pow_right (n := 2) (by decide) (show K ≤ 6 by omega)
  have hrt := rnd21 hK7
  refine wpS_cut (fun ds σ L => ∃ ba : Option Addr, ds = [] ∧ σ 0 = .slice a n c ∧ σ 1 = .int .i64 ((((2 ^ K) : Nat) : Int)) ∧ σ 5 = .slice ba (2 ^ K) (2 ^ K) ∧ Ent L [osl ba (2 ^ K) (2 ^ K) 1 3 ((fillZ l (2 ^ K) 0).flatMap intV)]) ?_ ?_
  · -- up to the cut
    refine wpS_region ?_
    refine s_y (v := .int .i64 ((((2 ^ K) : Nat) : Int))) (y_move h1_1) rfl ?_
    refine s_e rfl ?_
    refine e_make (enc := intV) (y0 := 0) (m := (2 ^ K)) (c := (2 ^ K)) (bytes := 8) intV_len (by decide) Try.underlying39 (i := Try.t3) rfl rfl rfl rfl rfl rfl rfl (by omega) (by omega) (by omega) ?_
    intro b_2
    refine s_y (v := .slice (some ⟨b_2, 0, none⟩) (2 ^ K) (2 ^ K)) (y_assign rfl) rfl ?_
    refine wpL_nil ?_
    refine thenS_n ?_
    rw [fillZ_0 l]
    exact ⟨some ⟨b_2, 0, none⟩, rfl, h0_1, h1_1, rfl, .p .h .nil⟩
  rintro ds σ L ⟨ba, rfl, h0_3, h1_3, h5_3, hE_3⟩
  refine wpS_ent hE_3 ?_; clear hE_3
  refine wpS_seq ?_
  refine wpS_seq ?_
  refine wpS_region ?_
  refine s_y (v := .int .i64 0) (y_assign rfl) rfl ?_
  refine wpL_nil ?_
  refine thenS_n ?_
  refine wpS_block ?_
  refine wpS_loop (fun m ds σ L => ∃ i0 : Nat, m = 2 ^ K - i0 ∧ (i0 ≤ 2 ^ K) ∧ ds = [] ∧ σ 0 = .slice a n c ∧ σ 1 = .int .i64 ((((2 ^ K) : Nat) : Int)) ∧ σ 5 = .slice ba (2 ^ K) (2 ^ K) ∧ σ 6 = .int .i64 (((i0 : Nat) : Int)) ∧ Ent L [osl ba (2 ^ K) (2 ^ K) 1 3 ((fillZ l (2 ^ K) i0).flatMap intV)]) (m0 := 2 ^ K - 0) ⟨0, rfl, by omega, rfl, h0_3, h1_3, h5_3, rfl, .p .h .nil⟩ ?_
  rintro m ds σ L ⟨i0, hm_4, hf0_4, rfl, h0_4, h1_4, h5_4, h6_4, hE_4⟩
  refine wpS_ent hE_4 ?_; clear hE_4
  have hfi := fillZ_len l (2 ^ K) i0
  refine wpS_seq ?_
  refine wpS_seq ?_
  refine wpS_region ?_
  refine s_y (v := .int .i64 (((i0 : Nat) : Int))) (y_move h6_4) rfl ?_
  refine s_y (v := .int .i64 ((((2 ^ K) : Nat) : Int))) (y_move h1_4) rfl ?_
  refine s_y (v := .bool (decide (i0 < (2 ^ K)))) (y_lss (a := ((i0 : Nat) : Int)) (b := (((2 ^ K) : Nat) : Int)) (c := decide (i0 < (2 ^ K))) rfl rfl (decide_eq_decide.2 (by omega))) rfl ?_
  refine s_y (v := .bool (decide (i0 < (2 ^ K)))) (y_move rfl) rfl ?_
  rcases Bool.eq_false_or_eq_true (decide (i0 < (2 ^ K))) with b5 | b5
  · -- decide (i0 < (2 ^ K)) True
    have p5 := of_decide_eq_true b5
    refine s_gy (y_move h6_4) rfl rfl rfl rfl (b' := decide (i0 < (2 ^ K))) rfl b5 ?_
    refine s_gy (y_move h0_4) rfl rfl rfl rfl (b' := decide (i0 < (2 ^ K))) rfl b5 ?_
    refine s_gy (y_len (ty' := 0) (at_ := #[]) rfl Try.underlying39) rfl rfl rfl rfl (b' := decide (i0 < (2 ^ K))) rfl b5 ?_
    refine s_gy (y_lss (a := ((i0 : Nat) : Int)) (b := ((n : Nat) : Int)) (c := decide (i0 < n)) rfl rfl (decide_eq_decide.2 (by omega))) rfl rfl rfl rfl (b' := decide (i0 < (2 ^ K))) rfl b5 ?_
    refine s_y (v := .bool (decide (i0 < n))) (y_pickT (b := decide (i0 < (2 ^ K))) (v := .bool (decide (i0 < n))) rfl b5 rfl) rfl ?_
    refine wpL_nil ?_
    refine thenS_n ?_
    refine wpS_cond (t := decide (i0 < n)) rfl (fun b6 => ?_) (fun b6 => ?_)
    · -- decide (i0 < n) true
      have p6 := of_decide_eq_true b6
      refine wpS_skip ?_
      refine thenS_n ?_
      refine wpS_seq ?_
      refine wpS_block ?_
      refine wpS_region ?_
      refine s_y (v := .slice ba (2 ^ K) (2 ^ K)) (y_move h5_4) rfl ?_
      refine s_y (v := .int .i64 (((i0 : Nat) : Int))) (y_move h6_4) rfl ?_
      refine s_y (v := .slice a n c) (y_move h0_4) rfl ?_
      refine s_y (v := .int .i64 (((i0 : Nat) : Int))) (y_move h6_4) rfl ?_
      refine s_y (v := .pointer (some ⟨aB a, aO a + i0 * 1, none⟩)) (y_idx (o := i0 * 1) rfl rfl Try.underlying39 Try.sizeOf3 (oldR hr) ((fl_len i64V_len _).trans (by first | omega | (simp only [List.length_set, List.length_take, List.length_drop]; done) | (simp only [List.length_set, List.length_take, List.length_drop]; omega))) (by decide) (by omega) (by omega) (by omega)) rfl ?_
      refine s_y (v := .int .i64 (((l.getD i0 default)).toInt)) (y_load1 (v := .int .i64 (((l.getD i0 default)).toInt)) rfl Try.isAgg3 (rd1 (k := i0 * 1) (oldR hr) (fl_get0 i64V_len l i0 (by first | omega | (simp only [List.length_set, List.length_take, List.length_drop]; done) | (simp only [List.length_set, List.length_take, List.length_drop]; omega)) rfl))) rfl ?_
      refine s_y (v := .pointer (some ⟨aB ba, aO ba + i0 * 1, none⟩)) (y_idx (o := i0 * 1) rfl rfl Try.underlying39 Try.sizeOf3 (oslR .h) ((fl_len intV_len _).trans (by first | omega | (simp only [List.length_set, List.length_take, List.length_drop]; done) | (simp only [List.length_set, List.length_take, List.length_drop]; omega))) (by decide) (by omega) (by omega) (by omega)) rfl ?_
      refine s_e0 ?_
      refine e_storeL' (enc := intV) (xs := (fillZ l (2 ^ K) i0)) (y := (((l.getD i0 default)).toInt)) (zs := (fillZ l (2 ^ K) (i0 + 1))) intV_len intV_one (by decide) rfl rfl rfl Try.sizeOf3 .h (by (try simp only [List.length_set]); omega) (fillZ_set (by omega) (by omega)) ?_
      refine wpL_nil ?_
      refine blockS_n ?_
      refine thenS_n ?_
      refine wpS_region ?_
      refine s_y (v := .int .i64 (((i0 : Nat) : Int))) (y_move h6_4) rfl ?_
      refine s_y (v := .int .i64 ((((i0 + 1) : Nat) : Int))) (y_add (a := ((i0 : Nat) : Int)) (b := 1) (c := (((i0 + 1) : Nat) : Int)) rfl rfl (wI (by omega) (by omega) (by omega))) rfl ?_
      refine s_y (v := .int .i64 ((((i0 + 1) : Nat) : Int))) (y_assign rfl) rfl ?_
      refine wpL_nil ?_
      refine thenS_n ?_
      exact ⟨_, by omega, ⟨(i0 + 1), rfl, by omega, rfl, h0_4, h1_4, h5_4, rfl, .p .h .nil⟩⟩
    · -- decide (i0 < n) false
      have p6 := of_decide_eq_false b6
      refine wpS_exit ?_
      refine thenS_x ?_
      refine thenS_x ?_
      refine blockS_h ?_
      refine thenS_n ?_
      refine wpS_seq ?_
      refine wpS_seq ?_
      refine wpS_region ?_
      refine s_y (v := .int .i64 0) (y_assign rfl) rfl ?_
      refine wpL_nil ?_
      refine thenS_n ?_
      refine wpS_block ?_
      rw [fillZ_end (l := l) (N := 2 ^ K) (i := i0) (by omega) (by omega)]
      refine wpS_loop (fun m ds σ L => ∃ r : Nat, m = rnd ((2 ^ K : Nat) : Int) - r ∧ (r ≤ rnd ((2 ^ K : Nat) : Int)) ∧ ds = [] ∧ σ 1 = .int .i64 ((((2 ^ K) : Nat) : Int)) ∧ σ 5 = .slice ba (2 ^ K) (2 ^ K) ∧ σ 7 = .int .i64 (((r : Nat) : Int)) ∧ Ent L [osl ba (2 ^ K) (2 ^ K) 1 3 ((netK K (fillZ l (2 ^ K) (2 ^ K)) r).flatMap intV)]) (m0 := rnd ((2 ^ K : Nat) : Int) - 0) ⟨0, rfl, by omega, rfl, h1_4, h5_4, rfl, .p .h .nil⟩ ?_
      rintro m ds σ L ⟨r, hm_7, hf0_7, rfl, h1_7, h5_7, h7_7, hE_7⟩
      refine wpS_ent hE_7 ?_; clear hE_7
      have hnl := netK_len K (fillZ l (2 ^ K) (2 ^ K)) r
      have hfl := fillZ_len l (2 ^ K) (2 ^ K)
      refine wpS_seq ?_
      refine wpS_seq ?_
      refine wpS_region ?_
      refine s_y (v := .int .i64 (((r : Nat) : Int))) (y_move h7_7) rfl ?_
      refine s_y (v := .int .i64 ((((2 ^ K) : Nat) : Int))) (y_move h1_7) rfl ?_
      refine s_y (v := .int .i64 ((((rnd ((((2 ^ K) : Nat) : Int))) : Nat) : Int))) (y_call (args := #[.int .i64 ((((2 ^ K) : Nat) : Int))]) (v := .int .i64 ((((rnd ((((2 ^ K) : Nat) : Int))) : Nat) : Int))) Try.call52 (ev1 rfl) (fun w hs => rounds_c ((((2 ^ K) : Nat) : Int)) (by omega) (by omega) w)) rfl ?_
      refine s_y (v := .bool (decide (r < (rnd ((((2 ^ K) : Nat) : Int)))))) (y_lss (a := ((r : Nat) : Int)) (b := (((rnd ((((2 ^ K) : Nat) : Int))) : Nat) : Int)) (c := decide (r < (rnd ((((2 ^ K) : Nat) : Int))))) rfl rfl (decide_eq_decide.2 (by omega))) rfl ?_
      refine wpL_nil ?_
      refine thenS_n ?_
      refine wpS_cond (t := decide (r < (rnd ((((2 ^ K) : Nat) : Int))))) rfl (fun b8 => ?_) (fun b8 => ?_)
      · -- decide (r < (rnd ((((2 ^ K) : Nat) : Int)))) true
        have p8 := of_decide_eq_true b8
        refine wpS_skip ?_
        refine thenS_n ?_
        refine wpS_seq ?_
        refine wpS_block ?_
        refine wpS_seq ?_
        refine wpS_region ?_
        refine s_y (v := .int .i64 ((((2 ^ K) : Nat) : Int))) (y_move h1_7) rfl ?_
        refine s_y (v := .int .i64 (((r : Nat) : Int))) (y_move h7_7) rfl ?_
        refine s_e rfl ?_
        refine e_call (f := 53) (args := #[.int .i64 ((((2 ^ K) : Nat) : Int)), .int .i64 (((r : Nat) : Int))]) (X := Nat × Nat) (A := []) (M := [osl ba (2 ^ K) (2 ^ K) 1 3 ((netK K (fillZ l (2 ^ K) (2 ^ K)) r).flatMap intV)]) (V := fun x : Nat × Nat => .func (.func 152) #[] #[.pointer (some ⟨x.1, 0, none⟩), .pointer (some ⟨x.2, 0, none⟩)]) (A' := fun x : Nat × Nat => [cel x.1 3 [.int .i64 ((((2 ^ K) : Nat) : Int))], cel x.2 3 [.int .i64 (((r : Nat) : Int))]]) (C := fun _ => True) Try.call53 (ev2 rfl rfl) (.p .h .nil) (fun w hs => round_c ((((2 ^ K) : Nat) : Int)) (((r : Nat) : Int)) w) ?_
        rintro ⟨b_9, b_10⟩ -
        refine s_y (v := .int .i64 ((((2 ^ K) : Nat) : Int))) (y_move h1_7) rfl ?_
        refine s_e rfl ?_
        refine e_call (f := 54) (args := #[.func (.func 152) #[] #[.pointer (some ⟨b_9, 0, none⟩), .pointer (some ⟨b_10, 0, none⟩)], .int .i64 ((((2 ^ K) : Nat) : Int))]) (X := (Option Addr × Nat) × (Option Addr × Nat)) (A := []) (M := [cel b_9 3 [.int .i64 ((((2 ^ K) : Nat) : Int))], cel b_10 3 [.int .i64 (((r : Nat) : Int))], osl ba (2 ^ K) (2 ^ K) 1 3 ((netK K (fillZ l (2 ^ K) (2 ^ K)) r).flatMap intV)]) (V := fun x => .tuple #[slV (frsZ ((((2 ^ K) : Nat) : Int)) (((r : Nat) : Int))) x.1, slV (frsY ((((2 ^ K) : Nat) : Int)) (((r : Nat) : Int))) x.2, .bool true]) (A' := fun x => [slR intV 1 3 (frsZ ((((2 ^ K) : Nat) : Int)) (((r : Nat) : Int))) x.1, slR intV 1 3 (frsY ((((2 ^ K) : Nat) : Int)) (((r : Nat) : Int))) x.2]) (C := fun _ => True) Try.call54 (ev2 rfl rfl) (.p .h (.p .h (.p .h .nil))) (fun w hs => seq2r_c ((((2 ^ K) : Nat) : Int)) (((r : Nat) : Int)) (by omega) (by omega) (by omega) (by omega) b_9 b_10 (((2 ^ K) : Nat) : Int) w (own1 .h rfl w hs) (own1 (.t .h) rfl w hs) (by have := frs_len ((2 ^ K : Nat) : Int) r; omega) (by omega)) ?_
        rintro ⟨⟨a_11, c_12⟩, ⟨a_13, c_14⟩⟩ -
        refine s_y (v := .tuple #[.slice a_11 ((frsZ ((((2 ^ K) : Nat) : Int)) (((r : Nat) : Int))).length) c_12, .slice a_13 ((frsY ((((2 ^ K) : Nat) : Int)) (((r : Nat) : Int))).length) c_14, .bool true]) (y_move rfl) rfl ?_
        refine s_y (v := .slice a_11 ((frsZ ((((2 ^ K) : Nat) : Int)) (((r : Nat) : Int))).length) c_12) (y_extract (v := .slice a_11 ((frsZ ((((2 ^ K) : Nat) : Int)) (((r : Nat) : Int))).length) c_12) rfl rfl) rfl ?_
        refine s_y (v := .slice a_13 ((frsY ((((2 ^ K) : Nat) : Int)) (((r : Nat) : Int))).length) c_14) (y_extract (v := .slice a_13 ((frsY ((((2 ^ K) : Nat) : Int)) (((r : Nat) : Int))).length) c_14) rfl rfl) rfl ?_
        refine s_y (v := .bool true) (y_extract (v := .bool true) rfl rfl) rfl ?_
        refine s_y (v := .slice a_11 ((frsZ ((((2 ^ K) : Nat) : Int)) (((r : Nat) : Int))).length) c_12) (y_assign rfl) rfl ?_
        refine s_y (v := .slice a_13 ((frsY ((((2 ^ K) : Nat) : Int)) (((r : Nat) : Int))).length) c_14) (y_assign rfl) rfl ?_
        refine s_y (v := .bool true) (y_assign rfl) rfl ?_
        refine wpL_nil ?_
        refine thenS_n ?_
        refine wpS_seq ?_
        refine wpS_seq ?_
        refine wpS_region ?_
        refine s_y (v := .bool true) (y_move rfl) rfl ?_
        refine s_y (v := .bool false) (y_notK (b := true) (c := false) rfl rfl) rfl ?_
        refine wpL_nil ?_
        refine thenS_n ?_
        refine wpS_cond_f rfl ?_
        refine wpS_skip ?_
        refine thenS_n ?_
        refine wpS_seq ?_
        refine wpS_region ?_
        refine s_y (v := .int .i64 0) (y_assign rfl) rfl ?_
        refine wpL_nil ?_
        refine thenS_n ?_
        refine wpS_block ?_
        have hfl2 := frs_len ((2 ^ K : Nat) : Int) r
        have hZl := frsZ_len ((2 ^ K : Nat) : Int) r
        have hYl := frsY_len ((2 ^ K : Nat) : Int) r
        refine wpS_loop (fun m ds σ L => ∃ i : Nat, m = (frsZ ((2 ^ K : Nat) : Int) r).length - i ∧ (i ≤ (frsZ ((2 ^ K : Nat) : Int) r).length) ∧ ds = [] ∧ σ 1 = .int .i64 ((((2 ^ K) : Nat) : Int)) ∧ σ 5 = .slice ba (2 ^ K) (2 ^ K) ∧ σ 7 = .int .i64 (((r : Nat) : Int)) ∧ σ 8 = .slice a_11 ((frsZ ((((2 ^ K) : Nat) : Int)) (((r : Nat) : Int))).length) c_12 ∧ σ 9 = .slice a_13 ((frsY ((((2 ^ K) : Nat) : Int)) (((r : Nat) : Int))).length) c_14 ∧ σ 11 = .int .i64 (((i : Nat) : Int)) ∧ Ent L [osl a_11 c_12 ((frsZ ((((2 ^ K) : Nat) : Int)) (((r : Nat) : Int))).length) 1 3 ((frsZ ((((2 ^ K) : Nat) : Int)) (((r : Nat) : Int))).flatMap intV), osl a_13 c_14 ((frsY ((((2 ^ K) : Nat) : Int)) (((r : Nat) : Int))).length) 1 3 ((frsY ((((2 ^ K) : Nat) : Int)) (((r : Nat) : Int))).flatMap intV), cel b_9 3 [.int .i64 ((((2 ^ K) : Nat) : Int))], cel b_10 3 [.int .i64 (((r : Nat) : Int))], osl ba (2 ^ K) (2 ^ K) 1 3 ((cmpTo K r (netK K (fillZ l (2 ^ K) (2 ^ K)) r) i).flatMap intV)]) (m0 := (frsZ ((2 ^ K : Nat) : Int) r).length - 0) ⟨0, rfl, by omega, rfl, h1_7, h5_7, h7_7, rfl, rfl, rfl, .p .h (.p .h (.p .h (.p .h (.p .h .nil))))⟩ ?_
        rintro m ds σ L ⟨i, hm_17, hf0_17, rfl, h1_17, h5_17, h7_17, h8_17, h9_17, h11_17, hE_17⟩
        refine wpS_ent hE_17 ?_; clear hE_17
        have hcl := cmpTo_len K r (netK K (fillZ l (2 ^ K) (2 ^ K)) r) i
        refine wpS_seq ?_
        refine wpS_seq ?_
        refine wpS_region ?_
        refine s_y (v := .int .i64 (((i : Nat) : Int))) (y_move h11_17) rfl ?_
        refine s_y (v := .slice a_11 ((frsZ ((((2 ^ K) : Nat) : Int)) (((r : Nat) : Int))).length) c_12) (y_move h8_17) rfl ?_
        refine s_y (v := .int .i64 ((((frsZ ((((2 ^ K) : Nat) : Int)) (((r : Nat) : Int))).length : Nat) : Int))) (y_len (ty' := 0) (at_ := #[]) rfl Try.underlying39) rfl ?_
        refine s_y (v := .bool (decide (i < ((frsZ ((((2 ^ K) : Nat) : Int)) (((r : Nat) : Int))).length)))) (y_lss (a := ((i : Nat) : Int)) (b := (((frsZ ((((2 ^ K) : Nat) : Int)) (((r : Nat) : Int))).length : Nat) : Int)) (c := decide (i < ((frsZ ((((2 ^ K) : Nat) : Int)) (((r : Nat) : Int))).length))) rfl rfl (decide_eq_decide.2 (by omega))) rfl ?_
        refine wpL_nil ?_
        refine thenS_n ?_
        refine wpS_cond (t := decide (i < ((frsZ ((((2 ^ K) : Nat) : Int)) (((r : Nat) : Int))).length))) rfl (fun b18 => ?_) (fun b18 => ?_)
        · -- decide (i < ((frsZ ((((2 ^ K) : Nat) : Int)) (((r : Nat) : Int))).length)) true
          have p18 := of_decide_eq_true b18
          obtain ⟨pa, hfi⟩ := pairK (K := K) (r := r) (i := i) (by omega) (by omega) (by rw [← frsZ_len]; omega)
          have hzz := hfi.z
          have hyy := hfi.y
          have hlt := hfi.lt
          have hdp := Nat.two_pow_pos ((stK K r).2 - 1)
          refine wpS_skip ?_
          refine thenS_n ?_
          refine wpS_seq ?_
          refine wpS_block ?_
          refine wpS_seq ?_
          refine wpS_lex (by kernel_rfl) (by kernel_rfl) ?_
          refine x_y (v := .slice a_11 ((frsZ ((((2 ^ K) : Nat) : Int)) (((r : Nat) : Int))).length) c_12) (y_move h8_17) rfl ?_
          refine x_y (v := .int .i64 (((i : Nat) : Int))) (y_move h11_17) rfl ?_
          refine x_y (v := .pointer (some ⟨aB a_11, aO a_11 + i * 1, none⟩)) (y_idx (o := i * 1) rfl rfl Try.underlying39 Try.sizeOf3 (oslR .h) (fl_len intV_len _) (by decide) (by omega) (by omega) (by omega)) rfl ?_
          refine x_y (v := .int .i64 (((frsZ ((((2 ^ K) : Nat) : Int)) (((r : Nat) : Int))).getD i default))) (y_load1 (v := .int .i64 (((frsZ ((((2 ^ K) : Nat) : Int)) (((r : Nat) : Int))).getD i default))) rfl Try.isAgg3 (rd1 (k := i * 1) (oslR .h) (fl_get0 intV_len (frsZ ((((2 ^ K) : Nat) : Int)) (((r : Nat) : Int))) i (by first | omega | (simp only [List.length_set, List.length_take, List.length_drop]; done) | (simp only [List.length_set, List.length_take, List.length_drop]; omega)) rfl))) rfl ?_
          refine x_y (v := .slice a_13 ((frsY ((((2 ^ K) : Nat) : Int)) (((r : Nat) : Int))).length) c_14) (y_move h9_17) rfl ?_
          refine x_y (v := .int .i64 (((i : Nat) : Int))) (y_move h11_17) rfl ?_
          refine x_y (v := .pointer (some ⟨aB a_13, aO a_13 + i * 1, none⟩)) (y_idx (o := i * 1) rfl rfl Try.underlying39 Try.sizeOf3 (oslR (.t .h)) (fl_len intV_len _) (by decide) (by omega) (by omega) (by omega)) rfl ?_
          refine x_y (v := .int .i64 (((frsY ((((2 ^ K) : Nat) : Int)) (((r : Nat) : Int))).getD i default))) (y_load1 (v := .int .i64 (((frsY ((((2 ^ K) : Nat) : Int)) (((r : Nat) : Int))).getD i default))) rfl Try.isAgg3 (rd1 (k := i * 1) (oslR (.t .h)) (fl_get0 intV_len (frsY ((((2 ^ K) : Nat) : Int)) (((r : Nat) : Int))) i (by first | omega | (simp only [List.length_set, List.length_take, List.length_drop]; done) | (simp only [List.length_set, List.length_take, List.length_drop]; omega)) rfl))) rfl ?_
          refine x_y (v := .int .i64 (((frsZ ((((2 ^ K) : Nat) : Int)) (((r : Nat) : Int))).getD i default))) (y_assign rfl) rfl ?_
          refine x_y (v := .int .i64 (((frsY ((((2 ^ K) : Nat) : Int)) (((r : Nat) : Int))).getD i default))) (y_assign rfl) rfl ?_
          refine x_nil ?_
          refine thenS_n ?_
          refine wpS_seq ?_
          refine wpS_seq ?_
          refine wpS_region ?_
          refine s_y (v := .int .i64 (((frsZ ((((2 ^ K) : Nat) : Int)) (((r : Nat) : Int))).getD i default))) (y_move rfl) rfl ?_
          refine s_y (v := .bool (decide ((((frsZ ((((2 ^ K) : Nat) : Int)) (((r : Nat) : Int))).getD i default) : Int) < 0))) (y_lss (a := ((frsZ ((((2 ^ K) : Nat) : Int)) (((r : Nat) : Int))).getD i default)) (b := 0) rfl rfl rfl) rfl ?_
          refine s_y (v := .bool (decide ((((frsZ ((((2 ^ K) : Nat) : Int)) (((r : Nat) : Int))).getD i default) : Int) < 0))) (y_move rfl) rfl ?_
          refine s_gy (y_move rfl) rfl rfl rfl rfl (b' := decide ((((frsZ ((((2 ^ K) : Nat) : Int)) (((r : Nat) : Int))).getD i default) : Int) < 0)) rfl (decide_eq_false (by omega)) ?_
          refine s_gy (y_move rfl) rfl rfl rfl rfl (b' := decide ((((frsZ ((((2 ^ K) : Nat) : Int)) (((r : Nat) : Int))).getD i default) : Int) < 0)) rfl (decide_eq_false (by omega)) ?_
          refine s_gy (y_leq (a := ((frsY ((((2 ^ K) : Nat) : Int)) (((r : Nat) : Int))).getD i default)) (b := ((frsZ ((((2 ^ K) : Nat) : Int)) (((r : Nat) : Int))).getD i default)) rfl rfl rfl) rfl rfl rfl rfl (b' := decide ((((frsZ ((((2 ^ K) : Nat) : Int)) (((r : Nat) : Int))).getD i default) : Int) < 0)) rfl (decide_eq_false (by omega)) ?_
          refine s_y (v := .bool (decide ((((frsY ((((2 ^ K) : Nat) : Int)) (((r : Nat) : Int))).getD i default) : Int) ≤ ((frsZ ((((2 ^ K) : Nat) : Int)) (((r : Nat) : Int))).getD i default)))) (y_pickF (b := decide ((((frsZ ((((2 ^ K) : Nat) : Int)) (((r : Nat) : Int))).getD i default) : Int) < 0)) (v := .bool (decide ((((frsY ((((2 ^ K) : Nat) : Int)) (((r : Nat) : Int))).getD i default) : Int) ≤ ((frsZ ((((2 ^ K) : Nat) : Int)) (((r : Nat) : Int))).getD i default)))) rfl (decide_eq_false (by omega)) rfl) rfl ?_
          refine s_y (v := .bool (decide ((((frsY ((((2 ^ K) : Nat) : Int)) (((r : Nat) : Int))).getD i default) : Int) ≤ ((frsZ ((((2 ^ K) : Nat) : Int)) (((r : Nat) : Int))).getD i default)))) (y_move rfl) rfl ?_
          refine s_gy (y_move rfl) rfl rfl rfl rfl (b' := decide ((((frsY ((((2 ^ K) : Nat) : Int)) (((r : Nat) : Int))).getD i default) : Int) ≤ ((frsZ ((((2 ^ K) : Nat) : Int)) (((r : Nat) : Int))).getD i default))) rfl (decide_eq_false (by omega)) ?_
          refine s_gy (y_move h1_17) rfl rfl rfl rfl (b' := decide ((((frsY ((((2 ^ K) : Nat) : Int)) (((r : Nat) : Int))).getD i default) : Int) ≤ ((frsZ ((((2 ^ K) : Nat) : Int)) (((r : Nat) : Int))).getD i default))) rfl (decide_eq_false (by omega)) ?_
          refine s_gy (y_geq (a := ((frsY ((((2 ^ K) : Nat) : Int)) (((r : Nat) : Int))).getD i default)) (b := (((2 ^ K) : Nat) : Int)) rfl rfl rfl) rfl rfl rfl rfl (b' := decide ((((frsY ((((2 ^ K) : Nat) : Int)) (((r : Nat) : Int))).getD i default) : Int) ≤ ((frsZ ((((2 ^ K) : Nat) : Int)) (((r : Nat) : Int))).getD i default))) rfl (decide_eq_false (by omega)) ?_
          refine s_y (v := .bool (decide (((((2 ^ K) : Nat) : Int) : Int) ≤ ((frsY ((((2 ^ K) : Nat) : Int)) (((r : Nat) : Int))).getD i default)))) (y_pickF (b := decide ((((frsY ((((2 ^ K) : Nat) : Int)) (((r : Nat) : Int))).getD i default) : Int) ≤ ((frsZ ((((2 ^ K) : Nat) : Int)) (((r : Nat) : Int))).getD i default))) (v := .bool (decide (((((2 ^ K) : Nat) : Int) : Int) ≤ ((frsY ((((2 ^ K) : Nat) : Int)) (((r : Nat) : Int))).getD i default)))) rfl (decide_eq_false (by omega)) rfl) rfl ?_
          refine wpL_nil ?_
          refine thenS_n ?_
          refine wpS_cond_F (t := decide (((((2 ^ K) : Nat) : Int) : Int) ≤ ((frsY ((((2 ^ K) : Nat) : Int)) (((r : Nat) : Int))).getD i default))) rfl (decide_eq_false (by omega)) ?_
          refine wpS_skip ?_
          refine thenS_n ?_
          refine wpS_seq ?_
          refine wpS_lex (by kernel_rfl) (by kernel_rfl) ?_
          refine x_y (v := .slice ba (2 ^ K) (2 ^ K)) (y_move h5_17) rfl ?_
          refine x_y (v := .int .i64 (((frsZ ((((2 ^ K) : Nat) : Int)) (((r : Nat) : Int))).getD i default))) (y_move rfl) rfl ?_
          refine x_y (v := .pointer (some ⟨aB ba, aO ba + ((((frsZ ((((2 ^ K) : Nat) : Int)) (((r : Nat) : Int))).getD i default)).toNat) * 1, none⟩)) (y_idx (o := ((((frsZ ((((2 ^ K) : Nat) : Int)) (((r : Nat) : Int))).getD i default)).toNat) * 1) rfl rfl Try.underlying39 Try.sizeOf3 (oslR (.t (.t (.t (.t .h))))) ((fl_len intV_len _).trans (by first | omega | (simp only [List.length_set, List.length_take, List.length_drop]; done) | (simp only [List.length_set, List.length_take, List.length_drop]; omega))) (by decide) (by omega) (by omega) (by omega)) rfl ?_
          refine x_y (v := .int .i64 (((cmpTo K r (netK K (fillZ l (2 ^ K) (2 ^ K)) r) i).getD ((((frsZ ((((2 ^ K) : Nat) : Int)) (((r : Nat) : Int))).getD i default)).toNat) default))) (y_load1 (v := .int .i64 (((cmpTo K r (netK K (fillZ l (2 ^ K) (2 ^ K)) r) i).getD ((((frsZ ((((2 ^ K) : Nat) : Int)) (((r : Nat) : Int))).getD i default)).toNat) default))) rfl Try.isAgg3 (rd1 (k := ((((frsZ ((((2 ^ K) : Nat) : Int)) (((r : Nat) : Int))).getD i default)).toNat) * 1) (oslR (.t (.t (.t (.t .h))))) (fl_get0 intV_len (cmpTo K r (netK K (fillZ l (2 ^ K) (2 ^ K)) r) i) ((((frsZ ((((2 ^ K) : Nat) : Int)) (((r : Nat) : Int))).getD i default)).toNat) (by first | omega | (simp only [List.length_set, List.length_take, List.length_drop]; done) | (simp only [List.length_set, List.length_take, List.length_drop]; omega)) rfl))) rfl ?_
          refine x_y (v := .slice ba (2 ^ K) (2 ^ K)) (y_move h5_17) rfl ?_
          refine x_y (v := .int .i64 (((frsY ((((2 ^ K) : Nat) : Int)) (((r : Nat) : Int))).getD i default))) (y_move rfl) rfl ?_
          refine x_y (v := .pointer (some ⟨aB ba, aO ba + ((((frsY ((((2 ^ K) : Nat) : Int)) (((r : Nat) : Int))).getD i default)).toNat) * 1, none⟩)) (y_idx (o := ((((frsY ((((2 ^ K) : Nat) : Int)) (((r : Nat) : Int))).getD i default)).toNat) * 1) rfl rfl Try.underlying39 Try.sizeOf3 (oslR (.t (.t (.t (.t .h))))) ((fl_len intV_len _).trans (by first | omega | (simp only [List.length_set, List.length_take, List.length_drop]; done) | (simp only [List.length_set, List.length_take, List.length_drop]; omega))) (by decide) (by omega) (by omega) (by omega)) rfl ?_
          refine x_y (v := .int .i64 (((cmpTo K r (netK K (fillZ l (2 ^ K) (2 ^ K)) r) i).getD ((((frsY ((((2 ^ K) : Nat) : Int)) (((r : Nat) : Int))).getD i default)).toNat) default))) (y_load1 (v := .int .i64 (((cmpTo K r (netK K (fillZ l (2 ^ K) (2 ^ K)) r) i).getD ((((frsY ((((2 ^ K) : Nat) : Int)) (((r : Nat) : Int))).getD i default)).toNat) default))) rfl Try.isAgg3 (rd1 (k := ((((frsY ((((2 ^ K) : Nat) : Int)) (((r : Nat) : Int))).getD i default)).toNat) * 1) (oslR (.t (.t (.t (.t .h))))) (fl_get0 intV_len (cmpTo K r (netK K (fillZ l (2 ^ K) (2 ^ K)) r) i) ((((frsY ((((2 ^ K) : Nat) : Int)) (((r : Nat) : Int))).getD i default)).toNat) (by first | omega | (simp only [List.length_set, List.length_take, List.length_drop]; done) | (simp only [List.length_set, List.length_take, List.length_drop]; omega)) rfl))) rfl ?_
          refine x_y (v := .bool (decide ((((cmpTo K r (netK K (fillZ l (2 ^ K) (2 ^ K)) r) i).getD ((((frsY ((((2 ^ K) : Nat) : Int)) (((r : Nat) : Int))).getD i default)).toNat) default) : Int) < ((cmpTo K r (netK K (fillZ l (2 ^ K) (2 ^ K)) r) i).getD ((((frsZ ((((2 ^ K) : Nat) : Int)) (((r : Nat) : Int))).getD i default)).toNat) default)))) (y_gtr (a := ((cmpTo K r (netK K (fillZ l (2 ^ K) (2 ^ K)) r) i).getD ((((frsZ ((((2 ^ K) : Nat) : Int)) (((r : Nat) : Int))).getD i default)).toNat) default)) (b := ((cmpTo K r (netK K (fillZ l (2 ^ K) (2 ^ K)) r) i).getD ((((frsY ((((2 ^ K) : Nat) : Int)) (((r : Nat) : Int))).getD i default)).toNat) default)) rfl rfl rfl) rfl ?_
          refine x_y (v := .int .i64 ((((2 ^ K) : Nat) : Int))) (y_move h1_17) rfl ?_
          refine x_y (v := .int .i64 (((r : Nat) : Int))) (y_move h7_17) rfl ?_
          refine x_y (v := .int .i64 (((frsZ ((((2 ^ K) : Nat) : Int)) (((r : Nat) : Int))).getD i default))) (y_move rfl) rfl ?_
          refine x_y (v := .bool ((up ((((2 ^ K) : Nat) : Int)) (((r : Nat) : Int)) ((frsZ ((((2 ^ K) : Nat) : Int)) (((r : Nat) : Int))).getD i default)))) (y_call (args := #[.int .i64 ((((2 ^ K) : Nat) : Int)), .int .i64 (((r : Nat) : Int)), .int .i64 (((frsZ ((((2 ^ K) : Nat) : Int)) (((r : Nat) : Int))).getD i default))]) (v := .bool ((up ((((2 ^ K) : Nat) : Int)) (((r : Nat) : Int)) ((frsZ ((((2 ^ K) : Nat) : Int)) (((r : Nat) : Int))).getD i default)))) Try.call59 (ev3 rfl rfl rfl) (fun w hs => up_c ((((2 ^ K) : Nat) : Int)) (((r : Nat) : Int)) ((frsZ ((((2 ^ K) : Nat) : Int)) (((r : Nat) : Int))).getD i default) (by omega) (by omega) (by omega) (by omega) (by omega) (by omega) w)) rfl ?_
          refine x_y (v := .bool ((decide ((((cmpTo K r (netK K (fillZ l (2 ^ K) (2 ^ K)) r) i).getD ((((frsY ((((2 ^ K) : Nat) : Int)) (((r : Nat) : Int))).getD i default)).toNat) default) : Int) < ((cmpTo K r (netK K (fillZ l (2 ^ K) (2 ^ K)) r) i).getD ((((frsZ ((((2 ^ K) : Nat) : Int)) (((r : Nat) : Int))).getD i default)).toNat) default))) == (up ((((2 ^ K) : Nat) : Int)) (((r : Nat) : Int)) ((frsZ ((((2 ^ K) : Nat) : Int)) (((r : Nat) : Int))).getD i default)))) (y_eqlB (a := decide ((((cmpTo K r (netK K (fillZ l (2 ^ K) (2 ^ K)) r) i).getD ((((frsY ((((2 ^ K) : Nat) : Int)) (((r : Nat) : Int))).getD i default)).toNat) default) : Int) < ((cmpTo K r (netK K (fillZ l (2 ^ K) (2 ^ K)) r) i).getD ((((frsZ ((((2 ^ K) : Nat) : Int)) (((r : Nat) : Int))).getD i default)).toNat) default))) (b := (up ((((2 ^ K) : Nat) : Int)) (((r : Nat) : Int)) ((frsZ ((((2 ^ K) : Nat) : Int)) (((r : Nat) : Int))).getD i default))) Try.underlying4 rfl rfl rfl) rfl ?_
          refine x_y (v := .bool ((decide ((((cmpTo K r (netK K (fillZ l (2 ^ K) (2 ^ K)) r) i).getD ((((frsY ((((2 ^ K) : Nat) : Int)) (((r : Nat) : Int))).getD i default)).toNat) default) : Int) < ((cmpTo K r (netK K (fillZ l (2 ^ K) (2 ^ K)) r) i).getD ((((frsZ ((((2 ^ K) : Nat) : Int)) (((r : Nat) : Int))).getD i default)).toNat) default))) == (up ((((2 ^ K) : Nat) : Int)) (((r : Nat) : Int)) ((frsZ ((((2 ^ K) : Nat) : Int)) (((r : Nat) : Int))).getD i default)))) (y_move rfl) rfl ?_
          rcases Bool.eq_false_or_eq_true ((decide ((((cmpTo K r (netK K (fillZ l (2 ^ K) (2 ^ K)) r) i).getD ((((frsY ((((2 ^ K) : Nat) : Int)) (((r : Nat) : Int))).getD i default)).toNat) default) : Int) < ((cmpTo K r (netK K (fillZ l (2 ^ K) (2 ^ K)) r) i).getD ((((frsZ ((((2 ^ K) : Nat) : Int)) (((r : Nat) : Int))).getD i default)).toNat) default))) == (up ((((2 ^ K) : Nat) : Int)) (((r : Nat) : Int)) ((frsZ ((((2 ^ K) : Nat) : Int)) (((r : Nat) : Int))).getD i default))) with b19 | b19
          · -- (decide ((((cmpTo K r (netK K (fillZ l (2 ^ K) (2 ^ K)) r) i).getD ((((frsY ((((2 ^ K) : Nat) : Int)) (((r : Nat) : Int))).getD i default)).toNat) default) : Int) < ((cmpTo K r (netK K (fillZ l (2 ^ K) (2 ^ K)) r) i).getD ((((frsZ ((((2 ^ K) : Nat) : Int)) (((r : Nat) : Int))).getD i default)).toNat) default))) == (up ((((2 ^ K) : Nat) : Int)) (((r : Nat) : Int)) ((frsZ ((((2 ^ K) : Nat) : Int)) (((r : Nat) : Int))).getD i default)) True
            have hcond := b19
            refine x_gy (y_move h5_17) rfl rfl rfl rfl (b' := (decide ((((cmpTo K r (netK K (fillZ l (2 ^ K) (2 ^ K)) r) i).getD ((((frsY ((((2 ^ K) : Nat) : Int)) (((r : Nat) : Int))).getD i default)).toNat) default) : Int) < ((cmpTo K r (netK K (fillZ l (2 ^ K) (2 ^ K)) r) i).getD ((((frsZ ((((2 ^ K) : Nat) : Int)) (((r : Nat) : Int))).getD i default)).toNat) default))) == (up ((((2 ^ K) : Nat) : Int)) (((r : Nat) : Int)) ((frsZ ((((2 ^ K) : Nat) : Int)) (((r : Nat) : Int))).getD i default))) rfl b19 ?_
            refine x_gy (y_move rfl) rfl rfl rfl rfl (b' := (decide ((((cmpTo K r (netK K (fillZ l (2 ^ K) (2 ^ K)) r) i).getD ((((frsY ((((2 ^ K) : Nat) : Int)) (((r : Nat) : Int))).getD i default)).toNat) default) : Int) < ((cmpTo K r (netK K (fillZ l (2 ^ K) (2 ^ K)) r) i).getD ((((frsZ ((((2 ^ K) : Nat) : Int)) (((r : Nat) : Int))).getD i default)).toNat) default))) == (up ((((2 ^ K) : Nat) : Int)) (((r : Nat) : Int)) ((frsZ ((((2 ^ K) : Nat) : Int)) (((r : Nat) : Int))).getD i default))) rfl b19 ?_
            refine x_gy (y_idx (o := ((((frsZ ((((2 ^ K) : Nat) : Int)) (((r : Nat) : Int))).getD i default)).toNat) * 1) rfl rfl Try.underlying39 Try.sizeOf3 (oslR (.t (.t (.t (.t .h))))) ((fl_len intV_len _).trans (by first | omega | (simp only [List.length_set, List.length_take, List.length_drop]; done) | (simp only [List.length_set, List.length_take, List.length_drop]; omega))) (by decide) (by omega) (by omega) (by omega)) rfl rfl rfl rfl (b' := (decide ((((cmpTo K r (netK K (fillZ l (2 ^ K) (2 ^ K)) r) i).getD ((((frsY ((((2 ^ K) : Nat) : Int)) (((r : Nat) : Int))).getD i default)).toNat) default) : Int) < ((cmpTo K r (netK K (fillZ l (2 ^ K) (2 ^ K)) r) i).getD ((((frsZ ((((2 ^ K) : Nat) : Int)) (((r : Nat) : Int))).getD i default)).toNat) default))) == (up ((((2 ^ K) : Nat) : Int)) (((r : Nat) : Int)) ((frsZ ((((2 ^ K) : Nat) : Int)) (((r : Nat) : Int))).getD i default))) rfl b19 ?_
            refine x_gy (y_load1 (v := .int .i64 (((cmpTo K r (netK K (fillZ l (2 ^ K) (2 ^ K)) r) i).getD ((((frsZ ((((2 ^ K) : Nat) : Int)) (((r : Nat) : Int))).getD i default)).toNat) default))) rfl Try.isAgg3 (rd1 (k := ((((frsZ ((((2 ^ K) : Nat) : Int)) (((r : Nat) : Int))).getD i default)).toNat) * 1) (oslR (.t (.t (.t (.t .h))))) (fl_get0 intV_len (cmpTo K r (netK K (fillZ l (2 ^ K) (2 ^ K)) r) i) ((((frsZ ((((2 ^ K) : Nat) : Int)) (((r : Nat) : Int))).getD i default)).toNat) (by first | omega | (simp only [List.length_set, List.length_take, List.length_drop]; done) | (simp only [List.length_set, List.length_take, List.length_drop]; omega)) rfl))) rfl rfl rfl rfl (b' := (decide ((((cmpTo K r (netK K (fillZ l (2 ^ K) (2 ^ K)) r) i).getD ((((frsY ((((2 ^ K) : Nat) : Int)) (((r : Nat) : Int))).getD i default)).toNat) default) : Int) < ((cmpTo K r (netK K (fillZ l (2 ^ K) (2 ^ K)) r) i).getD ((((frsZ ((((2 ^ K) : Nat) : Int)) (((r : Nat) : Int))).getD i default)).toNat) default))) == (up ((((2 ^ K) : Nat) : Int)) (((r : Nat) : Int)) ((frsZ ((((2 ^ K) : Nat) : Int)) (((r : Nat) : Int))).getD i default))) rfl b19 ?_
            refine x_gy (y_move h5_17) rfl rfl rfl rfl (b' := (decide ((((cmpTo K r (netK K (fillZ l (2 ^ K) (2 ^ K)) r) i).getD ((((frsY ((((2 ^ K) : Nat) : Int)) (((r : Nat) : Int))).getD i default)).toNat) default) : Int) < ((cmpTo K r (netK K (fillZ l (2 ^ K) (2 ^ K)) r) i).getD ((((frsZ ((((2 ^ K) : Nat) : Int)) (((r : Nat) : Int))).getD i default)).toNat) default))) == (up ((((2 ^ K) : Nat) : Int)) (((r : Nat) : Int)) ((frsZ ((((2 ^ K) : Nat) : Int)) (((r : Nat) : Int))).getD i default))) rfl b19 ?_
            refine x_gy (y_move rfl) rfl rfl rfl rfl (b' := (decide ((((cmpTo K r (netK K (fillZ l (2 ^ K) (2 ^ K)) r) i).getD ((((frsY ((((2 ^ K) : Nat) : Int)) (((r : Nat) : Int))).getD i default)).toNat) default) : Int) < ((cmpTo K r (netK K (fillZ l (2 ^ K) (2 ^ K)) r) i).getD ((((frsZ ((((2 ^ K) : Nat) : Int)) (((r : Nat) : Int))).getD i default)).toNat) default))) == (up ((((2 ^ K) : Nat) : Int)) (((r : Nat) : Int)) ((frsZ ((((2 ^ K) : Nat) : Int)) (((r : Nat) : Int))).getD i default))) rfl b19 ?_
            refine x_gy (y_idx (o := ((((frsY ((((2 ^ K) : Nat) : Int)) (((r : Nat) : Int))).getD i default)).toNat) * 1) rfl rfl Try.underlying39 Try.sizeOf3 (oslR (.t (.t (.t (.t .h))))) ((fl_len intV_len _).trans (by first | omega | (simp only [List.length_set, List.length_take, List.length_drop]; done) | (simp only [List.length_set, List.length_take, List.length_drop]; omega))) (by decide) (by omega) (by omega) (by omega)) rfl rfl rfl rfl (b' := (decide ((((cmpTo K r (netK K (fillZ l (2 ^ K) (2 ^ K)) r) i).getD ((((frsY ((((2 ^ K) : Nat) : Int)) (((r : Nat) : Int))).getD i default)).toNat) default) : Int) < ((cmpTo K r (netK K (fillZ l (2 ^ K) (2 ^ K)) r) i).getD ((((frsZ ((((2 ^ K) : Nat) : Int)) (((r : Nat) : Int))).getD i default)).toNat) default))) == (up ((((2 ^ K) : Nat) : Int)) (((r : Nat) : Int)) ((frsZ ((((2 ^ K) : Nat) : Int)) (((r : Nat) : Int))).getD i default))) rfl b19 ?_
            refine x_gy (y_load1 (v := .int .i64 (((cmpTo K r (netK K (fillZ l (2 ^ K) (2 ^ K)) r) i).getD ((((frsY ((((2 ^ K) : Nat) : Int)) (((r : Nat) : Int))).getD i default)).toNat) default))) rfl Try.isAgg3 (rd1 (k := ((((frsY ((((2 ^ K) : Nat) : Int)) (((r : Nat) : Int))).getD i default)).toNat) * 1) (oslR (.t (.t (.t (.t .h))))) (fl_get0 intV_len (cmpTo K r (netK K (fillZ l (2 ^ K) (2 ^ K)) r) i) ((((frsY ((((2 ^ K) : Nat) : Int)) (((r : Nat) : Int))).getD i default)).toNat) (by first | omega | (simp only [List.length_set, List.length_take, List.length_drop]; done) | (simp only [List.length_set, List.length_take, List.length_drop]; omega)) rfl))) rfl rfl rfl rfl (b' := (decide ((((cmpTo K r (netK K (fillZ l (2 ^ K) (2 ^ K)) r) i).getD ((((frsY ((((2 ^ K) : Nat) : Int)) (((r : Nat) : Int))).getD i default)).toNat) default) : Int) < ((cmpTo K r (netK K (fillZ l (2 ^ K) (2 ^ K)) r) i).getD ((((frsZ ((((2 ^ K) : Nat) : Int)) (((r : Nat) : Int))).getD i default)).toNat) default))) == (up ((((2 ^ K) : Nat) : Int)) (((r : Nat) : Int)) ((frsZ ((((2 ^ K) : Nat) : Int)) (((r : Nat) : Int))).getD i default))) rfl b19 ?_
            refine x_gy (y_neq (a := ((cmpTo K r (netK K (fillZ l (2 ^ K) (2 ^ K)) r) i).getD ((((frsZ ((((2 ^ K) : Nat) : Int)) (((r : Nat) : Int))).getD i default)).toNat) default)) (b := ((cmpTo K r (netK K (fillZ l (2 ^ K) (2 ^ K)) r) i).getD ((((frsY ((((2 ^ K) : Nat) : Int)) (((r : Nat) : Int))).getD i default)).toNat) default)) rfl rfl rfl) rfl rfl rfl rfl (b' := (decide ((((cmpTo K r (netK K (fillZ l (2 ^ K) (2 ^ K)) r) i).getD ((((frsY ((((2 ^ K) : Nat) : Int)) (((r : Nat) : Int))).getD i default)).toNat) default) : Int) < ((cmpTo K r (netK K (fillZ l (2 ^ K) (2 ^ K)) r) i).getD ((((frsZ ((((2 ^ K) : Nat) : Int)) (((r : Nat) : Int))).getD i default)).toNat) default))) == (up ((((2 ^ K) : Nat) : Int)) (((r : Nat) : Int)) ((frsZ ((((2 ^ K) : Nat) : Int)) (((r : Nat) : Int))).getD i default))) rfl b19 ?_
            refine x_y (v := .bool (decide ((((cmpTo K r (netK K (fillZ l (2 ^ K) (2 ^ K)) r) i).getD ((((frsZ ((((2 ^ K) : Nat) : Int)) (((r : Nat) : Int))).getD i default)).toNat) default) : Int) ≠ ((cmpTo K r (netK K (fillZ l (2 ^ K) (2 ^ K)) r) i).getD ((((frsY ((((2 ^ K) : Nat) : Int)) (((r : Nat) : Int))).getD i default)).toNat) default)))) (y_pickT (b := (decide ((((cmpTo K r (netK K (fillZ l (2 ^ K) (2 ^ K)) r) i).getD ((((frsY ((((2 ^ K) : Nat) : Int)) (((r : Nat) : Int))).getD i default)).toNat) default) : Int) < ((cmpTo K r (netK K (fillZ l (2 ^ K) (2 ^ K)) r) i).getD ((((frsZ ((((2 ^ K) : Nat) : Int)) (((r : Nat) : Int))).getD i default)).toNat) default))) == (up ((((2 ^ K) : Nat) : Int)) (((r : Nat) : Int)) ((frsZ ((((2 ^ K) : Nat) : Int)) (((r : Nat) : Int))).getD i default))) (v := .bool (decide ((((cmpTo K r (netK K (fillZ l (2 ^ K) (2 ^ K)) r) i).getD ((((frsZ ((((2 ^ K) : Nat) : Int)) (((r : Nat) : Int))).getD i default)).toNat) default) : Int) ≠ ((cmpTo K r (netK K (fillZ l (2 ^ K) (2 ^ K)) r) i).getD ((((frsY ((((2 ^ K) : Nat) : Int)) (((r : Nat) : Int))).getD i default)).toNat) default)))) rfl b19 rfl) rfl ?_
            refine x_nil ?_
            refine thenS_n ?_
            refine wpS_cond (t := decide ((((cmpTo K r (netK K (fillZ l (2 ^ K) (2 ^ K)) r) i).getD ((((frsZ ((((2 ^ K) : Nat) : Int)) (((r : Nat) : Int))).getD i default)).toNat) default) : Int) ≠ ((cmpTo K r (netK K (fillZ l (2 ^ K) (2 ^ K)) r) i).getD ((((frsY ((((2 ^ K) : Nat) : Int)) (((r : Nat) : Int))).getD i default)).toNat) default))) rfl (fun b20 => ?_) (fun b20 => ?_)
            · -- decide ((((cmpTo K r (netK K (fillZ l (2 ^ K) (2 ^ K)) r) i).getD ((((frsZ ((((2 ^ K) : Nat) : Int)) (((r : Nat) : Int))).getD i default)).toNat) default) : Int) ≠ ((cmpTo K r (netK K (fillZ l (2 ^ K) (2 ^ K)) r) i).getD ((((frsY ((((2 ^ K) : Nat) : Int)) (((r : Nat) : Int))).getD i default)).toNat) default)) true
              have p20 := of_decide_eq_true b20
              have hne := of_decide_eq_true b20
              refine wpS_anyL [osl ba (2 ^ K) (2 ^ K) 1 3 ((cmpTo K r (netK K (fillZ l (2 ^ K) (2 ^ K)) r) i).flatMap intV)] [2, 3, 13, 14, 15] (by kernel_rfl) ?_
              refine anyS_takeF (i := 2) rfl (by kernel_rfl) (by kernel_rfl) (by kernel_rfl) (by kernel_rfl) (Yq.of (v := .slice ba (2 ^ K) (2 ^ K)) (y_move h5_17) rfl) ?_
              refine anyS_takeF (i := 3) rfl (by kernel_rfl) (by kernel_rfl) (by kernel_rfl) (by kernel_rfl) (Yq.of (v := .int .i64 (((frsY ((((2 ^ K) : Nat) : Int)) (((r : Nat) : Int))).getD i default))) (y_move rfl) rfl) ?_
              refine anyS_take (i := 0) rfl (by kernel_rfl) (by kernel_rfl) (by kernel_rfl) (by kernel_rfl) (Yq.of (v := .slice ba (2 ^ K) (2 ^ K)) (y_move h5_17) rfl) (.p (.t (.t (.t (.t .h)))) .nil) ?_
              refine anyS_take (i := 1) rfl (by kernel_rfl) (by kernel_rfl) (by kernel_rfl) (by kernel_rfl) (Yq.of (v := .int .i64 (((frsZ ((((2 ^ K) : Nat) : Int)) (((r : Nat) : Int))).getD i default))) (y_move rfl) rfl) (.p (.t (.t (.t (.t .h)))) .nil) ?_
              refine anyS_take (i := 4) rfl (by kernel_rfl) (by kernel_rfl) (by kernel_rfl) (by kernel_rfl) (Yq.of (v := .slice ba (2 ^ K) (2 ^ K)) (y_move h5_17) rfl) (.p (.t (.t (.t (.t .h)))) .nil) ?_
              refine anyS_take (i := 5) rfl (by kernel_rfl) (by kernel_rfl) (by kernel_rfl) (by kernel_rfl) (Yq.of (v := .int .i64 (((frsY ((((2 ^ K) : Nat) : Int)) (((r : Nat) : Int))).getD i default))) (y_move rfl) rfl) (.p (.t (.t (.t (.t .h)))) .nil) ?_
              refine anyS_take (i := 6) rfl (by kernel_rfl) (by kernel_rfl) (by kernel_rfl) (by kernel_rfl) (Yq.of (v := .pointer (some ⟨aB ba, aO ba + ((((frsY ((((2 ^ K) : Nat) : Int)) (((r : Nat) : Int))).getD i default)).toNat) * 1, none⟩)) (y_idx (o := ((((frsY ((((2 ^ K) : Nat) : Int)) (((r : Nat) : Int))).getD i default)).toNat) * 1) rfl rfl Try.underlying39 Try.sizeOf3 (oslR .h) ((fl_len intV_len _).trans (by first | omega | (simp only [List.length_set, List.length_take, List.length_drop]; done) | (simp only [List.length_set, List.length_take, List.length_drop]; omega))) (by decide) (by omega) (by omega) (by omega)) rfl) (.p (.t (.t (.t (.t .h)))) .nil) ?_
              refine anyS_take (i := 7) rfl (by kernel_rfl) (by kernel_rfl) (by kernel_rfl) (by kernel_rfl) (Yq.of (v := .int .i64 (((cmpTo K r (netK K (fillZ l (2 ^ K) (2 ^ K)) r) i).getD ((((frsY ((((2 ^ K) : Nat) : Int)) (((r : Nat) : Int))).getD i default)).toNat) default))) (y_load1 (v := .int .i64 (((cmpTo K r (netK K (fillZ l (2 ^ K) (2 ^ K)) r) i).getD ((((frsY ((((2 ^ K) : Nat) : Int)) (((r : Nat) : Int))).getD i default)).toNat) default))) rfl Try.isAgg3 (rd1 (k := ((((frsY ((((2 ^ K) : Nat) : Int)) (((r : Nat) : Int))).getD i default)).toNat) * 1) (oslR .h) (fl_get0 intV_len (cmpTo K r (netK K (fillZ l (2 ^ K) (2 ^ K)) r) i) ((((frsY ((((2 ^ K) : Nat) : Int)) (((r : Nat) : Int))).getD i default)).toNat) (by first | omega | (simp only [List.length_set, List.length_take, List.length_drop]; done) | (simp only [List.length_set, List.length_take, List.length_drop]; omega)) rfl))) rfl) (.p (.t (.t (.t (.t .h)))) .nil) ?_
              refine anyS_take (i := 8) rfl (by kernel_rfl) (by kernel_rfl) (by kernel_rfl) (by kernel_rfl) (Yq.of (v := .slice ba (2 ^ K) (2 ^ K)) (y_move h5_17) rfl) (.p (.t (.t (.t (.t .h)))) .nil) ?_
              refine anyS_take (i := 9) rfl (by kernel_rfl) (by kernel_rfl) (by kernel_rfl) (by kernel_rfl) (Yq.of (v := .int .i64 (((frsZ ((((2 ^ K) : Nat) : Int)) (((r : Nat) : Int))).getD i default))) (y_move rfl) rfl) (.p (.t (.t (.t (.t .h)))) .nil) ?_
              refine anyS_take (i := 10) rfl (by kernel_rfl) (by kernel_rfl) (by kernel_rfl) (by kernel_rfl) (Yq.of (v := .pointer (some ⟨aB ba, aO ba + ((((frsZ ((((2 ^ K) : Nat) : Int)) (((r : Nat) : Int))).getD i default)).toNat) * 1, none⟩)) (y_idx (o := ((((frsZ ((((2 ^ K) : Nat) : Int)) (((r : Nat) : Int))).getD i default)).toNat) * 1) rfl rfl Try.underlying39 Try.sizeOf3 (oslR .h) ((fl_len intV_len _).trans (by first | omega | (simp only [List.length_set, List.length_take, List.length_drop]; done) | (simp only [List.length_set, List.length_take, List.length_drop]; omega))) (by decide) (by omega) (by omega) (by omega)) rfl) (.p (.t (.t (.t (.t .h)))) .nil) ?_
              refine anyS_take (i := 11) rfl (by kernel_rfl) (by kernel_rfl) (by kernel_rfl) (by kernel_rfl) (Yq.of (v := .int .i64 (((cmpTo K r (netK K (fillZ l (2 ^ K) (2 ^ K)) r) i).getD ((((frsZ ((((2 ^ K) : Nat) : Int)) (((r : Nat) : Int))).getD i default)).toNat) default))) (y_load1 (v := .int .i64 (((cmpTo K r (netK K (fillZ l (2 ^ K) (2 ^ K)) r) i).getD ((((frsZ ((((2 ^ K) : Nat) : Int)) (((r : Nat) : Int))).getD i default)).toNat) default))) rfl Try.isAgg3 (rd1 (k := ((((frsZ ((((2 ^ K) : Nat) : Int)) (((r : Nat) : Int))).getD i default)).toNat) * 1) (oslR .h) (fl_get0 intV_len (cmpTo K r (netK K (fillZ l (2 ^ K) (2 ^ K)) r) i) ((((frsZ ((((2 ^ K) : Nat) : Int)) (((r : Nat) : Int))).getD i default)).toNat) (by first | omega | (simp only [List.length_set, List.length_take, List.length_drop]; done) | (simp only [List.length_set, List.length_take, List.length_drop]; omega)) rfl))) rfl) (.p (.t (.t (.t (.t .h)))) .nil) ?_
              refine anyS_take (i := 12) rfl (by kernel_rfl) (by kernel_rfl) (by kernel_rfl) (by kernel_rfl) (Yq.of (v := .pointer (some ⟨aB ba, aO ba + ((((frsZ ((((2 ^ K) : Nat) : Int)) (((r : Nat) : Int))).getD i default)).toNat) * 1, none⟩)) (y_idx (o := ((((frsZ ((((2 ^ K) : Nat) : Int)) (((r : Nat) : Int))).getD i default)).toNat) * 1) rfl rfl Try.underlying39 Try.sizeOf3 (oslR .h) ((fl_len intV_len _).trans (by first | omega | (simp only [List.length_set, List.length_take, List.length_drop]; done) | (simp only [List.length_set, List.length_take, List.length_drop]; omega))) (by decide) (by omega) (by omega) (by omega)) rfl) (.p (.t (.t (.t (.t .h)))) .nil) ?_
              refine anyS_all (rs := [13]) (by kernel_rfl) (by simp) ?_
              intro i hi; obtain rfl := List.mem_singleton.1 hi; clear hi
              refine opS_0 rfl rfl ?_
              refine e_storeL' (enc := intV) (xs := (cmpTo K r (netK K (fillZ l (2 ^ K) (2 ^ K)) r) i)) (y := ((cmpTo K r (netK K (fillZ l (2 ^ K) (2 ^ K)) r) i).getD ((((frsY ((((2 ^ K) : Nat) : Int)) (((r : Nat) : Int))).getD i default)).toNat) default)) (zs := ((cmpTo K r (netK K (fillZ l (2 ^ K) (2 ^ K)) r) i).set ((((frsZ ((((2 ^ K) : Nat) : Int)) (((r : Nat) : Int))).getD i default)).toNat) ((cmpTo K r (netK K (fillZ l (2 ^ K) (2 ^ K)) r) i).getD ((((frsY ((((2 ^ K) : Nat) : Int)) (((r : Nat) : Int))).getD i default)).toNat) default))) intV_len intV_one (by decide) rfl rfl rfl Try.sizeOf3 (.t (.t (.t (.t .h)))) (by (try simp only [List.length_set]); omega) rfl ?_
              refine ⟨.inl (by simp), ?_⟩
              refine anyS_all (rs := [14]) (by kernel_rfl) (by simp) ?_
              intro i hi; obtain rfl := List.mem_singleton.1 hi; clear hi
              refine opS_0 rfl rfl ?_
              refine OpE.y (v := .pointer (some ⟨aB ba, aO ba + ((((frsY ((((2 ^ K) : Nat) : Int)) (((r : Nat) : Int))).getD i default)).toNat) * 1, none⟩)) (y_idx (o := ((((frsY ((((2 ^ K) : Nat) : Int)) (((r : Nat) : Int))).getD i default)).toNat) * 1) rfl rfl Try.underlying39 Try.sizeOf3 (oslR .h) ((fl_len intV_len _).trans (by first | omega | (simp only [List.length_set, List.length_take, List.length_drop]; done) | (simp only [List.length_set, List.length_take, List.length_drop]; omega))) (by decide) (by omega) (by omega) (by omega)) ?_
              refine ⟨.inl (by simp), ?_⟩
              refine anyS_all (rs := [15]) (by kernel_rfl) (by simp) ?_
              intro i hi; obtain rfl := List.mem_singleton.1 hi; clear hi
              refine opS_0 rfl rfl ?_
              refine e_storeL' (enc := intV) (xs := ((cmpTo K r (netK K (fillZ l (2 ^ K) (2 ^ K)) r) i).set ((((frsZ ((((2 ^ K) : Nat) : Int)) (((r : Nat) : Int))).getD i default)).toNat) ((cmpTo K r (netK K (fillZ l (2 ^ K) (2 ^ K)) r) i).getD ((((frsY ((((2 ^ K) : Nat) : Int)) (((r : Nat) : Int))).getD i default)).toNat) default))) (y := ((cmpTo K r (netK K (fillZ l (2 ^ K) (2 ^ K)) r) i).getD ((((frsZ ((((2 ^ K) : Nat) : Int)) (((r : Nat) : Int))).getD i default)).toNat) default)) (zs := (cmpTo K r (netK K (fillZ l (2 ^ K) (2 ^ K)) r) (i + 1))) intV_len intV_one (by decide) rfl rfl rfl Try.sizeOf3 .h (by (try simp only [List.length_set]); omega) (cmp_swap1 (by omega) hfi hcond hne) ?_
              refine ⟨.inl (by simp), ?_⟩
              refine anyS_done (by kernel_rfl) ?_
              refine blockS_n ?_
              refine thenS_n ?_
              refine wpS_region ?_
              refine s_y (v := .int .i64 (((i : Nat) : Int))) (y_move h11_17) rfl ?_
              refine s_y (v := .int .i64 ((((i + 1) : Nat) : Int))) (y_add (a := ((i : Nat) : Int)) (b := 1) (c := (((i + 1) : Nat) : Int)) rfl rfl (wI (by omega) (by omega) (by omega))) rfl ?_
              refine s_y (v := .int .i64 ((((i + 1) : Nat) : Int))) (y_assign rfl) rfl ?_
              refine wpL_nil ?_
              refine thenS_n ?_
              try first | rw [← cmp_skipA (K := K) (r := r) (i := i) (by omega) hfi (by assumption)] | rw [← cmp_skipB (K := K) (r := r) (i := i) (by omega) hfi (by assumption)]
              exact ⟨_, by omega, ⟨(i + 1), rfl, by omega, rfl, h1_17, h5_17, h7_17, h8_17, h9_17, rfl, .p (.t .h) (.p (.t .h) (.p (.t .h) (.p (.t .h) (.p .h .nil))))⟩⟩
            · -- decide ((((cmpTo K r (netK K (fillZ l (2 ^ K) (2 ^ K)) r) i).getD ((((frsZ ((((2 ^ K) : Nat) : Int)) (((r : Nat) : Int))).getD i default)).toNat) default) : Int) ≠ ((cmpTo K r (netK K (fillZ l (2 ^ K) (2 ^ K)) r) i).getD ((((frsY ((((2 ^ K) : Nat) : Int)) (((r : Nat) : Int))).getD i default)).toNat) default)) false
              have p20 := of_decide_eq_false b20
              refine wpS_skip ?_
              refine blockS_n ?_
              refine thenS_n ?_
              refine wpS_region ?_
              refine s_y (v := .int .i64 (((i : Nat) : Int))) (y_move h11_17) rfl ?_
              refine s_y (v := .int .i64 ((((i + 1) : Nat) : Int))) (y_add (a := ((i : Nat) : Int)) (b := 1) (c := (((i + 1) : Nat) : Int)) rfl rfl (wI (by omega) (by omega) (by omega))) rfl ?_
              refine s_y (v := .int .i64 ((((i + 1) : Nat) : Int))) (y_assign rfl) rfl ?_
              refine wpL_nil ?_
              refine thenS_n ?_
              try first | rw [← cmp_skipA (K := K) (r := r) (i := i) (by omega) hfi (by assumption)] | rw [← cmp_skipB (K := K) (r := r) (i := i) (by omega) hfi (by assumption)]
              exact ⟨_, by omega, ⟨(i + 1), rfl, by omega, rfl, h1_17, h5_17, h7_17, h8_17, h9_17, rfl, .p .h (.p .h (.p .h (.p .h (.p .h .nil))))⟩⟩
          · -- (decide ((((cmpTo K r (netK K (fillZ l (2 ^ K) (2 ^ K)) r) i).getD ((((frsY ((((2 ^ K) : Nat) : Int)) (((r : Nat) : Int))).getD i default)).toNat) default) : Int) < ((cmpTo K r (netK K (fillZ l (2 ^ K) (2 ^ K)) r) i).getD ((((frsZ ((((2 ^ K) : Nat) : Int)) (((r : Nat) : Int))).getD i default)).toNat) default))) == (up ((((2 ^ K) : Nat) : Int)) (((r : Nat) : Int)) ((frsZ ((((2 ^ K) : Nat) : Int)) (((r : Nat) : Int))).getD i default)) False
            refine x_no rfl rfl rfl rfl (b' := (decide ((((cmpTo K r (netK K (fillZ l (2 ^ K) (2 ^ K)) r) i).getD ((((frsY ((((2 ^ K) : Nat) : Int)) (((r : Nat) : Int))).getD i default)).toNat) default) : Int) < ((cmpTo K r (netK K (fillZ l (2 ^ K) (2 ^ K)) r) i).getD ((((frsZ ((((2 ^ K) : Nat) : Int)) (((r : Nat) : Int))).getD i default)).toNat) default))) == (up ((((2 ^ K) : Nat) : Int)) (((r : Nat) : Int)) ((frsZ ((((2 ^ K) : Nat) : Int)) (((r : Nat) : Int))).getD i default))) rfl b19 ?_
            refine x_no rfl rfl rfl rfl (b' := (decide ((((cmpTo K r (netK K (fillZ l (2 ^ K) (2 ^ K)) r) i).getD ((((frsY ((((2 ^ K) : Nat) : Int)) (((r : Nat) : Int))).getD i default)).toNat) default) : Int) < ((cmpTo K r (netK K (fillZ l (2 ^ K) (2 ^ K)) r) i).getD ((((frsZ ((((2 ^ K) : Nat) : Int)) (((r : Nat) : Int))).getD i default)).toNat) default))) == (up ((((2 ^ K) : Nat) : Int)) (((r : Nat) : Int)) ((frsZ ((((2 ^ K) : Nat) : Int)) (((r : Nat) : Int))).getD i default))) rfl b19 ?_
            refine x_no rfl rfl rfl rfl (b' := (decide ((((cmpTo K r (netK K (fillZ l (2 ^ K) (2 ^ K)) r) i).getD ((((frsY ((((2 ^ K) : Nat) : Int)) (((r : Nat) : Int))).getD i default)).toNat) default) : Int) < ((cmpTo K r (netK K (fillZ l (2 ^ K) (2 ^ K)) r) i).getD ((((frsZ ((((2 ^ K) : Nat) : Int)) (((r : Nat) : Int))).getD i default)).toNat) default))) == (up ((((2 ^ K) : Nat) : Int)) (((r : Nat) : Int)) ((frsZ ((((2 ^ K) : Nat) : Int)) (((r : Nat) : Int))).getD i default))) rfl b19 ?_
            refine x_no rfl rfl rfl rfl (b' := (decide ((((cmpTo K r (netK K (fillZ l (2 ^ K) (2 ^ K)) r) i).getD ((((frsY ((((2 ^ K) : Nat) : Int)) (((r : Nat) : Int))).getD i default)).toNat) default) : Int) < ((cmpTo K r (netK K (fillZ l (2 ^ K) (2 ^ K)) r) i).getD ((((frsZ ((((2 ^ K) : Nat) : Int)) (((r : Nat) : Int))).getD i default)).toNat) default))) == (up ((((2 ^ K) : Nat) : Int)) (((r : Nat) : Int)) ((frsZ ((((2 ^ K) : Nat) : Int)) (((r : Nat) : Int))).getD i default))) rfl b19 ?_
            refine x_no rfl rfl rfl rfl (b' := (decide ((((cmpTo K r (netK K (fillZ l (2 ^ K) (2 ^ K)) r) i).getD ((((frsY ((((2 ^ K) : Nat) : Int)) (((r : Nat) : Int))).getD i default)).toNat) default) : Int) < ((cmpTo K r (netK K (fillZ l (2 ^ K) (2 ^ K)) r) i).getD ((((frsZ ((((2 ^ K) : Nat) : Int)) (((r : Nat) : Int))).getD i default)).toNat) default))) == (up ((((2 ^ K) : Nat) : Int)) (((r : Nat) : Int)) ((frsZ ((((2 ^ K) : Nat) : Int)) (((r : Nat) : Int))).getD i default))) rfl b19 ?_
            refine x_no rfl rfl rfl rfl (b' := (decide ((((cmpTo K r (netK K (fillZ l (2 ^ K) (2 ^ K)) r) i).getD ((((frsY ((((2 ^ K) : Nat) : Int)) (((r : Nat) : Int))).getD i default)).toNat) default) : Int) < ((cmpTo K r (netK K (fillZ l (2 ^ K) (2 ^ K)) r) i).getD ((((frsZ ((((2 ^ K) : Nat) : Int)) (((r : Nat) : Int))).getD i default)).toNat) default))) == (up ((((2 ^ K) : Nat) : Int)) (((r : Nat) : Int)) ((frsZ ((((2 ^ K) : Nat) : Int)) (((r : Nat) : Int))).getD i default))) rfl b19 ?_
            refine x_no rfl rfl rfl rfl (b' := (decide ((((cmpTo K r (netK K (fillZ l (2 ^ K) (2 ^ K)) r) i).getD ((((frsY ((((2 ^ K) : Nat) : Int)) (((r : Nat) : Int))).getD i default)).toNat) default) : Int) < ((cmpTo K r (netK K (fillZ l (2 ^ K) (2 ^ K)) r) i).getD ((((frsZ ((((2 ^ K) : Nat) : Int)) (((r : Nat) : Int))).getD i default)).toNat) default))) == (up ((((2 ^ K) : Nat) : Int)) (((r : Nat) : Int)) ((frsZ ((((2 ^ K) : Nat) : Int)) (((r : Nat) : Int))).getD i default))) rfl b19 ?_
            refine x_no rfl rfl rfl rfl (b' := (decide ((((cmpTo K r (netK K (fillZ l (2 ^ K) (2 ^ K)) r) i).getD ((((frsY ((((2 ^ K) : Nat) : Int)) (((r : Nat) : Int))).getD i default)).toNat) default) : Int) < ((cmpTo K r (netK K (fillZ l (2 ^ K) (2 ^ K)) r) i).getD ((((frsZ ((((2 ^ K) : Nat) : Int)) (((r : Nat) : Int))).getD i default)).toNat) default))) == (up ((((2 ^ K) : Nat) : Int)) (((r : Nat) : Int)) ((frsZ ((((2 ^ K) : Nat) : Int)) (((r : Nat) : Int))).getD i default))) rfl b19 ?_
            refine x_no rfl rfl rfl rfl (b' := (decide ((((cmpTo K r (netK K (fillZ l (2 ^ K) (2 ^ K)) r) i).getD ((((frsY ((((2 ^ K) : Nat) : Int)) (((r : Nat) : Int))).getD i default)).toNat) default) : Int) < ((cmpTo K r (netK K (fillZ l (2 ^ K) (2 ^ K)) r) i).getD ((((frsZ ((((2 ^ K) : Nat) : Int)) (((r : Nat) : Int))).getD i default)).toNat) default))) == (up ((((2 ^ K) : Nat) : Int)) (((r : Nat) : Int)) ((frsZ ((((2 ^ K) : Nat) : Int)) (((r : Nat) : Int))).getD i default))) rfl b19 ?_
            refine x_y (v := .bool false) (y_pickF (b := (decide ((((cmpTo K r (netK K (fillZ l (2 ^ K) (2 ^ K)) r) i).getD ((((frsY ((((2 ^ K) : Nat) : Int)) (((r : Nat) : Int))).getD i default)).toNat) default) : Int) < ((cmpTo K r (netK K (fillZ l (2 ^ K) (2 ^ K)) r) i).getD ((((frsZ ((((2 ^ K) : Nat) : Int)) (((r : Nat) : Int))).getD i default)).toNat) default))) == (up ((((2 ^ K) : Nat) : Int)) (((r : Nat) : Int)) ((frsZ ((((2 ^ K) : Nat) : Int)) (((r : Nat) : Int))).getD i default))) (v := .bool false) rfl b19 rfl) rfl ?_
            refine x_nil ?_
            refine thenS_n ?_
            refine wpS_cond_f rfl ?_
            refine wpS_skip ?_
            refine blockS_n ?_
            refine thenS_n ?_
            refine wpS_region ?_
            refine s_y (v := .int .i64 (((i : Nat) : Int))) (y_move h11_17) rfl ?_
            refine s_y (v := .int .i64 ((((i + 1) : Nat) : Int))) (y_add (a := ((i : Nat) : Int)) (b := 1) (c := (((i + 1) : Nat) : Int)) rfl rfl (wI (by omega) (by omega) (by omega))) rfl ?_
            refine s_y (v := .int .i64 ((((i + 1) : Nat) : Int))) (y_assign rfl) rfl ?_
            refine wpL_nil ?_
            refine thenS_n ?_
            try first | rw [← cmp_skipA (K := K) (r := r) (i := i) (by omega) hfi (by assumption)] | rw [← cmp_skipB (K := K) (r := r) (i := i) (by omega) hfi (by assumption)]
            exact ⟨_, by omega, ⟨(i + 1), rfl, by omega, rfl, h1_17, h5_17, h7_17, h8_17, h9_17, rfl, .p .h (.p .h (.p .h (.p .h (.p .h .nil))))⟩⟩
        · -- decide (i < ((frsZ ((((2 ^ K) : Nat) : Int)) (((r : Nat) : Int))).length)) false
          have p18 := of_decide_eq_false b18
          refine wpS_exit ?_
          refine thenS_x ?_
          refine thenS_x ?_
          refine blockS_h ?_
          refine blockS_n ?_
          refine thenS_n ?_
          refine wpS_region ?_
          refine s_y (v := .int .i64 (((r : Nat) : Int))) (y_move h7_17) rfl ?_
          refine s_y (v := .int .i64 ((((r + 1) : Nat) : Int))) (y_add (a := ((r : Nat) : Int)) (b := 1) (c := (((r + 1) : Nat) : Int)) rfl rfl (wI (by omega) (by omega) (by omega))) rfl ?_
          refine s_y (v := .int .i64 ((((r + 1) : Nat) : Int))) (y_assign rfl) rfl ?_
          refine wpL_nil ?_
          refine thenS_n ?_
          rw [cmpTo_all (K := K) (r := r) (i := i) (by omega) (by omega) (by rw [← frsZ_len]; omega)]
          exact ⟨_, by omega, ⟨(r + 1), rfl, by omega, rfl, h1_17, h5_17, rfl, .p (.t (.t (.t (.t .h)))) .nil⟩⟩
      · -- decide (r < (rnd ((((2 ^ K) : Nat) : Int)))) false
        have p8 := of_decide_eq_false b8
        refine wpS_exit ?_
        refine thenS_x ?_
        refine thenS_x ?_
        refine blockS_h ?_
        refine thenS_n ?_
        refine wpS_seq ?_
        refine wpS_seq ?_
        refine wpS_region ?_
        refine s_y (v := .int .i64 1) (y_assign rfl) rfl ?_
        refine wpL_nil ?_
        refine thenS_n ?_
        refine wpS_block ?_
        refine wpS_loop (fun m ds σ L => ∃ j : Nat, m = 2 ^ K - j ∧ (1 ≤ j) ∧ ds = [] ∧ σ 1 = .int .i64 ((((2 ^ K) : Nat) : Int)) ∧ σ 5 = .slice ba (2 ^ K) (2 ^ K) ∧ σ 14 = .int .i64 (((j : Nat) : Int)) ∧ Ent L [osl ba (2 ^ K) (2 ^ K) 1 3 ((netK K (fillZ l (2 ^ K) (2 ^ K)) r).flatMap intV)]) (m0 := 2 ^ K - 1) ⟨1, rfl, by omega, rfl, h1_7, h5_7, rfl, .p .h .nil⟩ ?_
        rintro m ds σ L ⟨j, hm_21, hf0_21, rfl, h1_21, h5_21, h14_21, hE_21⟩
        refine wpS_ent hE_21 ?_; clear hE_21
        refine wpS_seq ?_
        refine wpS_seq ?_
        refine wpS_region ?_
        refine s_y (v := .int .i64 (((j : Nat) : Int))) (y_move h14_21) rfl ?_
        refine s_y (v := .int .i64 ((((2 ^ K) : Nat) : Int))) (y_move h1_21) rfl ?_
        refine s_y (v := .bool (decide (j < (2 ^ K)))) (y_lss (a := ((j : Nat) : Int)) (b := (((2 ^ K) : Nat) : Int)) (c := decide (j < (2 ^ K))) rfl rfl (decide_eq_decide.2 (by omega))) rfl ?_
        refine wpL_nil ?_
        refine thenS_n ?_
        refine wpS_cond (t := decide (j < (2 ^ K))) rfl (fun b22 => ?_) (fun b22 => ?_)
        · -- decide (j < (2 ^ K)) true
          have p22 := of_decide_eq_true b22
          refine wpS_skip ?_
          refine thenS_n ?_
          refine wpS_seq ?_
          refine wpS_block ?_
          refine wpS_seq ?_
          refine wpS_lex (by kernel_rfl) (by kernel_rfl) ?_
          refine x_y (v := .slice ba (2 ^ K) (2 ^ K)) (y_move h5_21) rfl ?_
          refine x_y (v := .int .i64 (((j : Nat) : Int))) (y_move h14_21) rfl ?_
          refine x_y (v := .pointer (some ⟨aB ba, aO ba + j * 1, none⟩)) (y_idx (o := j * 1) rfl rfl Try.underlying39 Try.sizeOf3 (oslR .h) ((fl_len intV_len _).trans (by first | omega | (simp only [List.length_set, List.length_take, List.length_drop]; done) | (simp only [List.length_set, List.length_take, List.length_drop]; omega))) (by decide) (by omega) (by omega) (by omega)) rfl ?_
          refine x_y (v := .int .i64 (((netK K (fillZ l (2 ^ K) (2 ^ K)) r).getD j default))) (y_load1 (v := .int .i64 (((netK K (fillZ l (2 ^ K) (2 ^ K)) r).getD j default))) rfl Try.isAgg3 (rd1 (k := j * 1) (oslR .h) (fl_get0 intV_len (netK K (fillZ l (2 ^ K) (2 ^ K)) r) j (by first | omega | (simp only [List.length_set, List.length_take, List.length_drop]; done) | (simp only [List.length_set, List.length_take, List.length_drop]; omega)) rfl))) rfl ?_
          refine x_y (v := .slice ba (2 ^ K) (2 ^ K)) (y_move h5_21) rfl ?_
          refine x_y (v := .int .i64 (((j : Nat) : Int))) (y_move h14_21) rfl ?_
          refine x_y (v := .int .i64 ((((j - 1) : Nat) : Int))) (y_sub (a := ((j : Nat) : Int)) (b := 1) (c := (((j - 1) : Nat) : Int)) rfl rfl (wI (by omega) (by omega) (by omega))) rfl ?_
          refine x_y (v := .pointer (some ⟨aB ba, aO ba + (j - 1) * 1, none⟩)) (y_idx (o := (j - 1) * 1) rfl rfl Try.underlying39 Try.sizeOf3 (oslR .h) ((fl_len intV_len _).trans (by first | omega | (simp only [List.length_set, List.length_take, List.length_drop]; done) | (simp only [List.length_set, List.length_take, List.length_drop]; omega))) (by decide) (by omega) (by omega) (by omega)) rfl ?_
          refine x_y (v := .int .i64 (((netK K (fillZ l (2 ^ K) (2 ^ K)) r).getD (j - 1) default))) (y_load1 (v := .int .i64 (((netK K (fillZ l (2 ^ K) (2 ^ K)) r).getD (j - 1) default))) rfl Try.isAgg3 (rd1 (k := (j - 1) * 1) (oslR .h) (fl_get0 intV_len (netK K (fillZ l (2 ^ K) (2 ^ K)) r) (j - 1) (by first | omega | (simp only [List.length_set, List.length_take, List.length_drop]; done) | (simp only [List.length_set, List.length_take, List.length_drop]; omega)) rfl))) rfl ?_
          refine x_y (v := .bool (decide ((((netK K (fillZ l (2 ^ K) (2 ^ K)) r).getD j default) : Int) < ((netK K (fillZ l (2 ^ K) (2 ^ K)) r).getD (j - 1) default)))) (y_lss (a := ((netK K (fillZ l (2 ^ K) (2 ^ K)) r).getD j default)) (b := ((netK K (fillZ l (2 ^ K) (2 ^ K)) r).getD (j - 1) default)) rfl rfl rfl) rfl ?_
          refine x_nil ?_
          refine thenS_n ?_
          refine wpS_cond_F (t := decide ((((netK K (fillZ l (2 ^ K) (2 ^ K)) r).getD j default) : Int) < ((netK K (fillZ l (2 ^ K) (2 ^ K)) r).getD (j - 1) default))) rfl (decide_eq_false (fun h => absurd h (Int.not_lt.2 (net_sorted hK7 (by omega) (by omega))))) ?_
          refine wpS_skip ?_
          refine blockS_n ?_
          refine thenS_n ?_
          refine wpS_region ?_
          refine s_y (v := .int .i64 (((j : Nat) : Int))) (y_move h14_21) rfl ?_
          refine s_y (v := .int .i64 ((((j + 1) : Nat) : Int))) (y_add (a := ((j : Nat) : Int)) (b := 1) (c := (((j + 1) : Nat) : Int)) rfl rfl (wI (by omega) (by omega) (by omega))) rfl ?_
          refine s_y (v := .int .i64 ((((j + 1) : Nat) : Int))) (y_assign rfl) rfl ?_
          refine wpL_nil ?_
          refine thenS_n ?_
          exact ⟨_, by omega, ⟨(j + 1), rfl, by omega, rfl, h1_21, h5_21, rfl, .p .h .nil⟩⟩
        · -- decide (j < (2 ^ K)) false
          have p22 := of_decide_eq_false b22
          refine wpS_exit ?_
          refine thenS_x ?_
          refine thenS_x ?_
          refine blockS_h ?_
          refine thenS_n ?_
          refine wpS_seq ?_
          refine wpS_region ?_
          refine s_y (v := .bool true) (y_call (args := #[]) (v := .bool true) Try.call51 ev0 (fun w hs => awake13_c w)) rfl ?_
          refine s_y (v := .bool true) (y_assign rfl) rfl ?_
          refine wpL_nil ?_
          refine thenS_n ?_
          refine wpS_ret ?_
          refine fin1 (M := []) (v := .bool true) (.inr rfl) (.nil) Try.results8 rfl ?_
          exact fun w' hs => ⟨rfl, hs⟩
  · -- decide (i0 < (2 ^ K)) False
    have p5 := of_decide_eq_false b5
    refine s_no rfl rfl rfl rfl (b' := decide (i0 < (2 ^ K))) rfl b5 ?_
    refine s_no rfl rfl rfl rfl (b' := decide (i0 < (2 ^ K))) rfl b5 ?_
    refine s_no rfl rfl rfl rfl (b' := decide (i0 < (2 ^ K))) rfl b5 ?_
    refine s_no rfl rfl rfl rfl (b' := decide (i0 < (2 ^ K))) rfl b5 ?_
    refine s_y (v := .bool false) (y_pickF (b := decide (i0 < (2 ^ K))) (v := .bool false) rfl b5 rfl) rfl ?_
    refine wpL_nil ?_
    refine thenS_n ?_
    refine wpS_cond_f rfl ?_
    refine wpS_exit ?_
    refine thenS_x ?_
    refine thenS_x ?_
    refine blockS_h ?_
    refine thenS_n ?_
    refine wpS_seq ?_
    refine wpS_seq ?_
    refine wpS_region ?_
    refine s_y (v := .int .i64 0) (y_assign rfl) rfl ?_
    refine wpL_nil ?_
    refine thenS_n ?_
    refine wpS_block ?_
    rw [fillZ_end (l := l) (N := 2 ^ K) (i := i0) (by omega) (by omega)]
    refine wpS_loop (fun m ds σ L => ∃ r : Nat, m = rnd ((2 ^ K : Nat) : Int) - r ∧ (r ≤ rnd ((2 ^ K : Nat) : Int)) ∧ ds = [] ∧ σ 1 = .int .i64 ((((2 ^ K) : Nat) : Int)) ∧ σ 5 = .slice ba (2 ^ K) (2 ^ K) ∧ σ 7 = .int .i64 (((r : Nat) : Int)) ∧ Ent L [osl ba (2 ^ K) (2 ^ K) 1 3 ((netK K (fillZ l (2 ^ K) (2 ^ K)) r).flatMap intV)]) (m0 := rnd ((2 ^ K : Nat) : Int) - 0) ⟨0, rfl, by omega, rfl, h1_4, h5_4, rfl, .p .h .nil⟩ ?_
    rintro m ds σ L ⟨r, hm_23, hf0_23, rfl, h1_23, h5_23, h7_23, hE_23⟩
    refine wpS_ent hE_23 ?_; clear hE_23
    have hnl := netK_len K (fillZ l (2 ^ K) (2 ^ K)) r
    have hfl := fillZ_len l (2 ^ K) (2 ^ K)
    refine wpS_seq ?_
    refine wpS_seq ?_
    refine wpS_region ?_
    refine s_y (v := .int .i64 (((r : Nat) : Int))) (y_move h7_23) rfl ?_
    refine s_y (v := .int .i64 ((((2 ^ K) : Nat) : Int))) (y_move h1_23) rfl ?_
    refine s_y (v := .int .i64 ((((rnd ((((2 ^ K) : Nat) : Int))) : Nat) : Int))) (y_call (args := #[.int .i64 ((((2 ^ K) : Nat) : Int))]) (v := .int .i64 ((((rnd ((((2 ^ K) : Nat) : Int))) : Nat) : Int))) Try.call52 (ev1 rfl) (fun w hs => rounds_c ((((2 ^ K) : Nat) : Int)) (by omega) (by omega) w)) rfl ?_
    refine s_y (v := .bool (decide (r < (rnd ((((2 ^ K) : Nat) : Int)))))) (y_lss (a := ((r : Nat) : Int)) (b := (((rnd ((((2 ^ K) : Nat) : Int))) : Nat) : Int)) (c := decide (r < (rnd ((((2 ^ K) : Nat) : Int))))) rfl rfl (decide_eq_decide.2 (by omega))) rfl ?_
    refine wpL_nil ?_
    refine thenS_n ?_
    refine wpS_cond (t := decide (r < (rnd ((((2 ^ K) : Nat) : Int))))) rfl (fun b24 => ?_) (fun b24 => ?_)
    · -- decide (r < (rnd ((((2 ^ K) : Nat) : Int)))) true
      have p24 := of_decide_eq_true b24
      refine wpS_skip ?_
      refine thenS_n ?_
      refine wpS_seq ?_
      refine wpS_block ?_
      refine wpS_seq ?_
      refine wpS_region ?_
      refine s_y (v := .int .i64 ((((2 ^ K) : Nat) : Int))) (y_move h1_23) rfl ?_
      refine s_y (v := .int .i64 (((r : Nat) : Int))) (y_move h7_23) rfl ?_
      refine s_e rfl ?_
      refine e_call (f := 53) (args := #[.int .i64 ((((2 ^ K) : Nat) : Int)), .int .i64 (((r : Nat) : Int))]) (X := Nat × Nat) (A := []) (M := [osl ba (2 ^ K) (2 ^ K) 1 3 ((netK K (fillZ l (2 ^ K) (2 ^ K)) r).flatMap intV)]) (V := fun x : Nat × Nat => .func (.func 152) #[] #[.pointer (some ⟨x.1, 0, none⟩), .pointer (some ⟨x.2, 0, none⟩)]) (A' := fun x : Nat × Nat => [cel x.1 3 [.int .i64 ((((2 ^ K) : Nat) : Int))], cel x.2 3 [.int .i64 (((r : Nat) : Int))]]) (C := fun _ => True) Try.call53 (ev2 rfl rfl) (.p .h .nil) (fun w hs => round_c ((((2 ^ K) : Nat) : Int)) (((r : Nat) : Int)) w) ?_
      rintro ⟨b_25, b_26⟩ -
      refine s_y (v := .int .i64 ((((2 ^ K) : Nat) : Int))) (y_move h1_23) rfl ?_
      refine s_e rfl ?_
      refine e_call (f := 54) (args := #[.func (.func 152) #[] #[.pointer (some ⟨b_25, 0, none⟩), .pointer (some ⟨b_26, 0, none⟩)], .int .i64 ((((2 ^ K) : Nat) : Int))]) (X := (Option Addr × Nat) × (Option Addr × Nat)) (A := []) (M := [cel b_25 3 [.int .i64 ((((2 ^ K) : Nat) : Int))], cel b_26 3 [.int .i64 (((r : Nat) : Int))], osl ba (2 ^ K) (2 ^ K) 1 3 ((netK K (fillZ l (2 ^ K) (2 ^ K)) r).flatMap intV)]) (V := fun x => .tuple #[slV (frsZ ((((2 ^ K) : Nat) : Int)) (((r : Nat) : Int))) x.1, slV (frsY ((((2 ^ K) : Nat) : Int)) (((r : Nat) : Int))) x.2, .bool true]) (A' := fun x => [slR intV 1 3 (frsZ ((((2 ^ K) : Nat) : Int)) (((r : Nat) : Int))) x.1, slR intV 1 3 (frsY ((((2 ^ K) : Nat) : Int)) (((r : Nat) : Int))) x.2]) (C := fun _ => True) Try.call54 (ev2 rfl rfl) (.p .h (.p .h (.p .h .nil))) (fun w hs => seq2r_c ((((2 ^ K) : Nat) : Int)) (((r : Nat) : Int)) (by omega) (by omega) (by omega) (by omega) b_25 b_26 (((2 ^ K) : Nat) : Int) w (own1 .h rfl w hs) (own1 (.t .h) rfl w hs) (by have := frs_len ((2 ^ K : Nat) : Int) r; omega) (by omega)) ?_
      rintro ⟨⟨a_27, c_28⟩, ⟨a_29, c_30⟩⟩ -
      refine s_y (v := .tuple #[.slice a_27 ((frsZ ((((2 ^ K) : Nat) : Int)) (((r : Nat) : Int))).length) c_28, .slice a_29 ((frsY ((((2 ^ K) : Nat) : Int)) (((r : Nat) : Int))).length) c_30, .bool true]) (y_move rfl) rfl ?_
      refine s_y (v := .slice a_27 ((frsZ ((((2 ^ K) : Nat) : Int)) (((r : Nat) : Int))).length) c_28) (y_extract (v := .slice a_27 ((frsZ ((((2 ^ K) : Nat) : Int)) (((r : Nat) : Int))).length) c_28) rfl rfl) rfl ?_
      refine s_y (v := .slice a_29 ((frsY ((((2 ^ K) : Nat) : Int)) (((r : Nat) : Int))).length) c_30) (y_extract (v := .slice a_29 ((frsY ((((2 ^ K) : Nat) : Int)) (((r : Nat) : Int))).length) c_30) rfl rfl) rfl ?_
      refine s_y (v := .bool true) (y_extract (v := .bool true) rfl rfl) rfl ?_
      refine s_y (v := .slice a_27 ((frsZ ((((2 ^ K) : Nat) : Int)) (((r : Nat) : Int))).length) c_28) (y_assign rfl) rfl ?_
      refine s_y (v := .slice a_29 ((frsY ((((2 ^ K) : Nat) : Int)) (((r : Nat) : Int))).length) c_30) (y_assign rfl) rfl ?_
      refine s_y (v := .bool true) (y_assign rfl) rfl ?_
      refine wpL_nil ?_
      refine thenS_n ?_
      refine wpS_seq ?_
      refine wpS_seq ?_
      refine wpS_region ?_
      refine s_y (v := .bool true) (y_move rfl) rfl ?_
      refine s_y (v := .bool false) (y_notK (b := true) (c := false) rfl rfl) rfl ?_
      refine wpL_nil ?_
      refine thenS_n ?_
      refine wpS_cond_f rfl ?_
      refine wpS_skip ?_
      refine thenS_n ?_
      refine wpS_seq ?_
      refine wpS_region ?_
      refine s_y (v := .int .i64 0) (y_assign rfl) rfl ?_
      refine wpL_nil ?_
      refine thenS_n ?_
      refine wpS_block ?_
      have hfl2 := frs_len ((2 ^ K : Nat) : Int) r
      have hZl := frsZ_len ((2 ^ K : Nat) : Int) r
      have hYl := frsY_len ((2 ^ K : Nat) : Int) r
      refine wpS_loop (fun m ds σ L => ∃ i : Nat, m = (frsZ ((2 ^ K : Nat) : Int) r).length - i ∧ (i ≤ (frsZ ((2 ^ K : Nat) : Int) r).length) ∧ ds = [] ∧ σ 1 = .int .i64 ((((2 ^ K) : Nat) : Int)) ∧ σ 5 = .slice ba (2 ^ K) (2 ^ K) ∧ σ 7 = .int .i64 (((r : Nat) : Int)) ∧ σ 8 = .slice a_27 ((frsZ ((((2 ^ K) : Nat) : Int)) (((r : Nat) : Int))).length) c_28 ∧ σ 9 = .slice a_29 ((frsY ((((2 ^ K) : Nat) : Int)) (((r : Nat) : Int))).length) c_30 ∧ σ 11 = .int .i64 (((i : Nat) : Int)) ∧ Ent L [osl a_27 c_28 ((frsZ ((((2 ^ K) : Nat) : Int)) (((r : Nat) : Int))).length) 1 3 ((frsZ ((((2 ^ K) : Nat) : Int)) (((r : Nat) : Int))).flatMap intV), osl a_29 c_30 ((frsY ((((2 ^ K) : Nat) : Int)) (((r : Nat) : Int))).length) 1 3 ((frsY ((((2 ^ K) : Nat) : Int)) (((r : Nat) : Int))).flatMap intV), cel b_25 3 [.int .i64 ((((2 ^ K) : Nat) : Int))], cel b_26 3 [.int .i64 (((r : Nat) : Int))], osl ba (2 ^ K) (2 ^ K) 1 3 ((cmpTo K r (netK K (fillZ l (2 ^ K) (2 ^ K)) r) i).flatMap intV)]) (m0 := (frsZ ((2 ^ K : Nat) : Int) r).length - 0) ⟨0, rfl, by omega, rfl, h1_23, h5_23, h7_23, rfl, rfl, rfl, .p .h (.p .h (.p .h (.p .h (.p .h .nil))))⟩ ?_
      rintro m ds σ L ⟨i, hm_33, hf0_33, rfl, h1_33, h5_33, h7_33, h8_33, h9_33, h11_33, hE_33⟩
      refine wpS_ent hE_33 ?_; clear hE_33
      have hcl := cmpTo_len K r (netK K (fillZ l (2 ^ K) (2 ^ K)) r) i
      refine wpS_seq ?_
      refine wpS_seq ?_
      refine wpS_region ?_
      refine s_y (v := .int .i64 (((i : Nat) : Int))) (y_move h11_33) rfl ?_
      refine s_y (v := .slice a_27 ((frsZ ((((2 ^ K) : Nat) : Int)) (((r : Nat) : Int))).length) c_28) (y_move h8_33) rfl ?_
      refine s_y (v := .int .i64 ((((frsZ ((((2 ^ K) : Nat) : Int)) (((r : Nat) : Int))).length : Nat) : Int))) (y_len (ty' := 0) (at_ := #[]) rfl Try.underlying39) rfl ?_
      refine s_y (v := .bool (decide (i < ((frsZ ((((2 ^ K) : Nat) : Int)) (((r : Nat) : Int))).length)))) (y_lss (a := ((i : Nat) : Int)) (b := (((frsZ ((((2 ^ K) : Nat) : Int)) (((r : Nat) : Int))).length : Nat) : Int)) (c := decide (i < ((frsZ ((((2 ^ K) : Nat) : Int)) (((r : Nat) : Int))).length))) rfl rfl (decide_eq_decide.2 (by omega))) rfl ?_
      refine wpL_nil ?_
      refine thenS_n ?_
      refine wpS_cond (t := decide (i < ((frsZ ((((2 ^ K) : Nat) : Int)) (((r : Nat) : Int))).length))) rfl (fun b34 => ?_) (fun b34 => ?_)
      · -- decide (i < ((frsZ ((((2 ^ K) : Nat) : Int)) (((r : Nat) : Int))).length)) true
        have p34 := of_decide_eq_true b34
        obtain ⟨pa, hfi⟩ := pairK (K := K) (r := r) (i := i) (by omega) (by omega) (by rw [← frsZ_len]; omega)
        have hzz := hfi.z
        have hyy := hfi.y
        have hlt := hfi.lt
        have hdp := Nat.two_pow_pos ((stK K r).2 - 1)
        refine wpS_skip ?_
        refine thenS_n ?_
        refine wpS_seq ?_
        refine wpS_block ?_
        refine wpS_seq ?_
        refine wpS_lex (by kernel_rfl) (by kernel_rfl) ?_
        refine x_y (v := .slice a_27 ((frsZ ((((2 ^ K) : Nat) : Int)) (((r : Nat) : Int))).length) c_28) (y_move h8_33) rfl ?_
        refine x_y (v := .int .i64 (((i : Nat) : Int))) (y_move h11_33) rfl ?_
        refine x_y (v := .pointer (some ⟨aB a_27, aO a_27 + i * 1, none⟩)) (y_idx (o := i * 1) rfl rfl Try.underlying39 Try.sizeOf3 (oslR .h) (fl_len intV_len _) (by decide) (by omega) (by omega) (by omega)) rfl ?_
        refine x_y (v := .int .i64 (((frsZ ((((2 ^ K) : Nat) : Int)) (((r : Nat) : Int))).getD i default))) (y_load1 (v := .int .i64 (((frsZ ((((2 ^ K) : Nat) : Int)) (((r : Nat) : Int))).getD i default))) rfl Try.isAgg3 (rd1 (k := i * 1) (oslR .h) (fl_get0 intV_len (frsZ ((((2 ^ K) : Nat) : Int)) (((r : Nat) : Int))) i (by first | omega | (simp only [List.length_set, List.length_take, List.length_drop]; done) | (simp only [List.length_set, List.length_take, List.length_drop]; omega)) rfl))) rfl ?_
        refine x_y (v := .slice a_29 ((frsY ((((2 ^ K) : Nat) : Int)) (((r : Nat) : Int))).length) c_30) (y_move h9_33) rfl ?_
        refine x_y (v := .int .i64 (((i : Nat) : Int))) (y_move h11_33) rfl ?_
        refine x_y (v := .pointer (some ⟨aB a_29, aO a_29 + i * 1, none⟩)) (y_idx (o := i * 1) rfl rfl Try.underlying39 Try.sizeOf3 (oslR (.t .h)) (fl_len intV_len _) (by decide) (by omega) (by omega) (by omega)) rfl ?_
        refine x_y (v := .int .i64 (((frsY ((((2 ^ K) : Nat) : Int)) (((r : Nat) : Int))).getD i default))) (y_load1 (v := .int .i64 (((frsY ((((2 ^ K) : Nat) : Int)) (((r : Nat) : Int))).getD i default))) rfl Try.isAgg3 (rd1 (k := i * 1) (oslR (.t .h)) (fl_get0 intV_len (frsY ((((2 ^ K) : Nat) : Int)) (((r : Nat) : Int))) i (by first | omega | (simp only [List.length_set, List.length_take, List.length_drop]; done) | (simp only [List.length_set, List.length_take, List.length_drop]; omega)) rfl))) rfl ?_
        refine x_y (v := .int .i64 (((frsZ ((((2 ^ K) : Nat) : Int)) (((r : Nat) : Int))).getD i default))) (y_assign rfl) rfl ?_
        refine x_y (v := .int .i64 (((frsY ((((2 ^ K) : Nat) : Int)) (((r : Nat) : Int))).getD i default))) (y_assign rfl) rfl ?_
        refine x_nil ?_
        refine thenS_n ?_
        refine wpS_seq ?_
        refine wpS_seq ?_
        refine wpS_region ?_
        refine s_y (v := .int .i64 (((frsZ ((((2 ^ K) : Nat) : Int)) (((r : Nat) : Int))).getD i default))) (y_move rfl) rfl ?_
        refine s_y (v := .bool (decide ((((frsZ ((((2 ^ K) : Nat) : Int)) (((r : Nat) : Int))).getD i default) : Int) < 0))) (y_lss (a := ((frsZ ((((2 ^ K) : Nat) : Int)) (((r : Nat) : Int))).getD i default)) (b := 0) rfl rfl rfl) rfl ?_
        refine s_y (v := .bool (decide ((((frsZ ((((2 ^ K) : Nat) : Int)) (((r : Nat) : Int))).getD i default) : Int) < 0))) (y_move rfl) rfl ?_
        refine s_gy (y_move rfl) rfl rfl rfl rfl (b' := decide ((((frsZ ((((2 ^ K) : Nat) : Int)) (((r : Nat) : Int))).getD i default) : Int) < 0)) rfl (decide_eq_false (by omega)) ?_
        refine s_gy (y_move rfl) rfl rfl rfl rfl (b' := decide ((((frsZ ((((2 ^ K) : Nat) : Int)) (((r : Nat) : Int))).getD i default) : Int) < 0)) rfl (decide_eq_false (by omega)) ?_
        refine s_gy (y_leq (a := ((frsY ((((2 ^ K) : Nat) : Int)) (((r : Nat) : Int))).getD i default)) (b := ((frsZ ((((2 ^ K) : Nat) : Int)) (((r : Nat) : Int))).getD i default)) rfl rfl rfl) rfl rfl rfl rfl (b' := decide ((((frsZ ((((2 ^ K) : Nat) : Int)) (((r : Nat) : Int))).getD i default) : Int) < 0)) rfl (decide_eq_false (by omega)) ?_
        refine s_y (v := .bool (decide ((((frsY ((((2 ^ K) : Nat) : Int)) (((r : Nat) : Int))).getD i default) : Int) ≤ ((frsZ ((((2 ^ K) : Nat) : Int)) (((r : Nat) : Int))).getD i default)))) (y_pickF (b := decide ((((frsZ ((((2 ^ K) : Nat) : Int)) (((r : Nat) : Int))).getD i default) : Int) < 0)) (v := .bool (decide ((((frsY ((((2 ^ K) : Nat) : Int)) (((r : Nat) : Int))).getD i default) : Int) ≤ ((frsZ ((((2 ^ K) : Nat) : Int)) (((r : Nat) : Int))).getD i default)))) rfl (decide_eq_false (by omega)) rfl) rfl ?_
        refine s_y (v := .bool (decide ((((frsY ((((2 ^ K) : Nat) : Int)) (((r : Nat) : Int))).getD i default) : Int) ≤ ((frsZ ((((2 ^ K) : Nat) : Int)) (((r : Nat) : Int))).getD i default)))) (y_move rfl) rfl ?_
        refine s_gy (y_move rfl) rfl rfl rfl rfl (b' := decide ((((frsY ((((2 ^ K) : Nat) : Int)) (((r : Nat) : Int))).getD i default) : Int) ≤ ((frsZ ((((2 ^ K) : Nat) : Int)) (((r : Nat) : Int))).getD i default))) rfl (decide_eq_false (by omega)) ?_
        refine s_gy (y_move h1_33) rfl rfl rfl rfl (b' := decide ((((frsY ((((2 ^ K) : Nat) : Int)) (((r : Nat) : Int))).getD i default) : Int) ≤ ((frsZ ((((2 ^ K) : Nat) : Int)) (((r : Nat) : Int))).getD i default))) rfl (decide_eq_false (by omega)) ?_
        refine s_gy (y_geq (a := ((frsY ((((2 ^ K) : Nat) : Int)) (((r : Nat) : Int))).getD i default)) (b := (((2 ^ K) : Nat) : Int)) rfl rfl rfl) rfl rfl rfl rfl (b' := decide ((((frsY ((((2 ^ K) : Nat) : Int)) (((r : Nat) : Int))).getD i default) : Int) ≤ ((frsZ ((((2 ^ K) : Nat) : Int)) (((r : Nat) : Int))).getD i default))) rfl (decide_eq_false (by omega)) ?_
        refine s_y (v := .bool (decide (((((2 ^ K) : Nat) : Int) : Int) ≤ ((frsY ((((2 ^ K) : Nat) : Int)) (((r : Nat) : Int))).getD i default)))) (y_pickF (b := decide ((((frsY ((((2 ^ K) : Nat) : Int)) (((r : Nat) : Int))).getD i default) : Int) ≤ ((frsZ ((((2 ^ K) : Nat) : Int)) (((r : Nat) : Int))).getD i default))) (v := .bool (decide (((((2 ^ K) : Nat) : Int) : Int) ≤ ((frsY ((((2 ^ K) : Nat) : Int)) (((r : Nat) : Int))).getD i default)))) rfl (decide_eq_false (by omega)) rfl) rfl ?_
        refine wpL_nil ?_
        refine thenS_n ?_
        refine wpS_cond_F (t := decide (((((2 ^ K) : Nat) : Int) : Int) ≤ ((frsY ((((2 ^ K) : Nat) : Int)) (((r : Nat) : Int))).getD i default))) rfl (decide_eq_false (by omega)) ?_
        refine wpS_skip ?_
        refine thenS_n ?_
        refine wpS_seq ?_
        refine wpS_lex (by kernel_rfl) (by kernel_rfl) ?_
        refine x_y (v := .slice ba (2 ^ K) (2 ^ K)) (y_move h5_33) rfl ?_
        refine x_y (v := .int .i64 (((frsZ ((((2 ^ K) : Nat) : Int)) (((r : Nat) : Int))).getD i default))) (y_move rfl) rfl ?_
        refine x_y (v := .pointer (some ⟨aB ba, aO ba + ((((frsZ ((((2 ^ K) : Nat) : Int)) (((r : Nat) : Int))).getD i default)).toNat) * 1, none⟩)) (y_idx (o := ((((frsZ ((((2 ^ K) : Nat) : Int)) (((r : Nat) : Int))).getD i default)).toNat) * 1) rfl rfl Try.underlying39 Try.sizeOf3 (oslR (.t (.t (.t (.t .h))))) ((fl_len intV_len _).trans (by first | omega | (simp only [List.length_set, List.length_take, List.length_drop]; done) | (simp only [List.length_set, List.length_take, List.length_drop]; omega))) (by decide) (by omega) (by omega) (by omega)) rfl ?_
        refine x_y (v := .int .i64 (((cmpTo K r (netK K (fillZ l (2 ^ K) (2 ^ K)) r) i).getD ((((frsZ ((((2 ^ K) : Nat) : Int)) (((r : Nat) : Int))).getD i default)).toNat) default))) (y_load1 (v := .int .i64 (((cmpTo K r (netK K (fillZ l (2 ^ K) (2 ^ K)) r) i).getD ((((frsZ ((((2 ^ K) : Nat) : Int)) (((r : Nat) : Int))).getD i default)).toNat) default))) rfl Try.isAgg3 (rd1 (k := ((((frsZ ((((2 ^ K) : Nat) : Int)) (((r : Nat) : Int))).getD i default)).toNat) * 1) (oslR (.t (.t (.t (.t .h))))) (fl_get0 intV_len (cmpTo K r (netK K (fillZ l (2 ^ K) (2 ^ K)) r) i) ((((frsZ ((((2 ^ K) : Nat) : Int)) (((r : Nat) : Int))).getD i default)).toNat) (by first | omega | (simp only [List.length_set, List.length_take, List.length_drop]; done) | (simp only [List.length_set, List.length_take, List.length_drop]; omega)) rfl))) rfl ?_
        refine x_y (v := .slice ba (2 ^ K) (2 ^ K)) (y_move h5_33) rfl ?_
        refine x_y (v := .int .i64 (((frsY ((((2 ^ K) : Nat) : Int)) (((r : Nat) : Int))).getD i default))) (y_move rfl) rfl ?_
        refine x_y (v := .pointer (some ⟨aB ba, aO ba + ((((frsY ((((2 ^ K) : Nat) : Int)) (((r : Nat) : Int))).getD i default)).toNat) * 1, none⟩)) (y_idx (o := ((((frsY ((((2 ^ K) : Nat) : Int)) (((r : Nat) : Int))).getD i default)).toNat) * 1) rfl rfl Try.underlying39 Try.sizeOf3 (oslR (.t (.t (.t (.t .h))))) ((fl_len intV_len _).trans (by first | omega | (simp only [List.length_set, List.length_take, List.length_drop]; done) | (simp only [List.length_set, List.length_take, List.length_drop]; omega))) (by decide) (by omega) (by omega) (by omega)) rfl ?_
        refine x_y (v := .int .i64 (((cmpTo K r (netK K (fillZ l (2 ^ K) (2 ^ K)) r) i).getD ((((frsY ((((2 ^ K) : Nat) : Int)) (((r : Nat) : Int))).getD i default)).toNat) default))) (y_load1 (v := .int .i64 (((cmpTo K r (netK K (fillZ l (2 ^ K) (2 ^ K)) r) i).getD ((((frsY ((((2 ^ K) : Nat) : Int)) (((r : Nat) : Int))).getD i default)).toNat) default))) rfl Try.isAgg3 (rd1 (k := ((((frsY ((((2 ^ K) : Nat) : Int)) (((r : Nat) : Int))).getD i default)).toNat) * 1) (oslR (.t (.t (.t (.t .h))))) (fl_get0 intV_len (cmpTo K r (netK K (fillZ l (2 ^ K) (2 ^ K)) r) i) ((((frsY ((((2 ^ K) : Nat) : Int)) (((r : Nat) : Int))).getD i default)).toNat) (by first | omega | (simp only [List.length_set, List.length_take, List.length_drop]; done) | (simp only [List.length_set, List.length_take, List.length_drop]; omega)) rfl))) rfl ?_
        refine x_y (v := .bool (decide ((((cmpTo K r (netK K (fillZ l (2 ^ K) (2 ^ K)) r) i).getD ((((frsY ((((2 ^ K) : Nat) : Int)) (((r : Nat) : Int))).getD i default)).toNat) default) : Int) < ((cmpTo K r (netK K (fillZ l (2 ^ K) (2 ^ K)) r) i).getD ((((frsZ ((((2 ^ K) : Nat) : Int)) (((r : Nat) : Int))).getD i default)).toNat) default)))) (y_gtr (a := ((cmpTo K r (netK K (fillZ l (2 ^ K) (2 ^ K)) r) i).getD ((((frsZ ((((2 ^ K) : Nat) : Int)) (((r : Nat) : Int))).getD i default)).toNat) default)) (b := ((cmpTo K r (netK K (fillZ l (2 ^ K) (2 ^ K)) r) i).getD ((((frsY ((((2 ^ K) : Nat) : Int)) (((r : Nat) : Int))).getD i default)).toNat) default)) rfl rfl rfl) rfl ?_
        refine x_y (v := .int .i64 ((((2 ^ K) : Nat) : Int))) (y_move h1_33) rfl ?_
        refine x_y (v := .int .i64 (((r : Nat) : Int))) (y_move h7_33) rfl ?_
        refine x_y (v := .int .i64 (((frsZ ((((2 ^ K) : Nat) : Int)) (((r : Nat) : Int))).getD i default))) (y_move rfl) rfl ?_
        refine x_y (v := .bool ((up ((((2 ^ K) : Nat) : Int)) (((r : Nat) : Int)) ((frsZ ((((2 ^ K) : Nat) : Int)) (((r : Nat) : Int))).getD i default)))) (y_call (args := #[.int .i64 ((((2 ^ K) : Nat) : Int)), .int .i64 (((r : Nat) : Int)), .int .i64 (((frsZ ((((2 ^ K) : Nat) : Int)) (((r : Nat) : Int))).getD i default))]) (v := .bool ((up ((((2 ^ K) : Nat) : Int)) (((r : Nat) : Int)) ((frsZ ((((2 ^ K) : Nat) : Int)) (((r : Nat) : Int))).getD i default)))) Try.call59 (ev3 rfl rfl rfl) (fun w hs => up_c ((((2 ^ K) : Nat) : Int)) (((r : Nat) : Int)) ((frsZ ((((2 ^ K) : Nat) : Int)) (((r : Nat) : Int))).getD i default) (by omega) (by omega) (by omega) (by omega) (by omega) (by omega) w)) rfl ?_
        refine x_y (v := .bool ((decide ((((cmpTo K r (netK K (fillZ l (2 ^ K) (2 ^ K)) r) i).getD ((((frsY ((((2 ^ K) : Nat) : Int)) (((r : Nat) : Int))).getD i default)).toNat) default) : Int) < ((cmpTo K r (netK K (fillZ l (2 ^ K) (2 ^ K)) r) i).getD ((((frsZ ((((2 ^ K) : Nat) : Int)) (((r : Nat) : Int))).getD i default)).toNat) default))) == (up ((((2 ^ K) : Nat) : Int)) (((r : Nat) : Int)) ((frsZ ((((2 ^ K) : Nat) : Int)) (((r : Nat) : Int))).getD i default)))) (y_eqlB (a := decide ((((cmpTo K r (netK K (fillZ l (2 ^ K) (2 ^ K)) r) i).getD ((((frsY ((((2 ^ K) : Nat) : Int)) (((r : Nat) : Int))).getD i default)).toNat) default) : Int) < ((cmpTo K r (netK K (fillZ l (2 ^ K) (2 ^ K)) r) i).getD ((((frsZ ((((2 ^ K) : Nat) : Int)) (((r : Nat) : Int))).getD i default)).toNat) default))) (b := (up ((((2 ^ K) : Nat) : Int)) (((r : Nat) : Int)) ((frsZ ((((2 ^ K) : Nat) : Int)) (((r : Nat) : Int))).getD i default))) Try.underlying4 rfl rfl rfl) rfl ?_
        refine x_y (v := .bool ((decide ((((cmpTo K r (netK K (fillZ l (2 ^ K) (2 ^ K)) r) i).getD ((((frsY ((((2 ^ K) : Nat) : Int)) (((r : Nat) : Int))).getD i default)).toNat) default) : Int) < ((cmpTo K r (netK K (fillZ l (2 ^ K) (2 ^ K)) r) i).getD ((((frsZ ((((2 ^ K) : Nat) : Int)) (((r : Nat) : Int))).getD i default)).toNat) default))) == (up ((((2 ^ K) : Nat) : Int)) (((r : Nat) : Int)) ((frsZ ((((2 ^ K) : Nat) : Int)) (((r : Nat) : Int))).getD i default)))) (y_move rfl) rfl ?_
        rcases Bool.eq_false_or_eq_true ((decide ((((cmpTo K r (netK K (fillZ l (2 ^ K) (2 ^ K)) r) i).getD ((((frsY ((((2 ^ K) : Nat) : Int)) (((r : Nat) : Int))).getD i default)).toNat) default) : Int) < ((cmpTo K r (netK K (fillZ l (2 ^ K) (2 ^ K)) r) i).getD ((((frsZ ((((2 ^ K) : Nat) : Int)) (((r : Nat) : Int))).getD i default)).toNat) default))) == (up ((((2 ^ K) : Nat) : Int)) (((r : Nat) : Int)) ((frsZ ((((2 ^ K) : Nat) : Int)) (((r : Nat) : Int))).getD i default))) with b35 | b35
        · -- (decide ((((cmpTo K r (netK K (fillZ l (2 ^ K) (2 ^ K)) r) i).getD ((((frsY ((((2 ^ K) : Nat) : Int)) (((r : Nat) : Int))).getD i default)).toNat) default) : Int) < ((cmpTo K r (netK K (fillZ l (2 ^ K) (2 ^ K)) r) i).getD ((((frsZ ((((2 ^ K) : Nat) : Int)) (((r : Nat) : Int))).getD i default)).toNat) default))) == (up ((((2 ^ K) : Nat) : Int)) (((r : Nat) : Int)) ((frsZ ((((2 ^ K) : Nat) : Int)) (((r : Nat) : Int))).getD i default)) True
          have hcond := b35
          refine x_gy (y_move h5_33) rfl rfl rfl rfl (b' := (decide ((((cmpTo K r (netK K (fillZ l (2 ^ K) (2 ^ K)) r) i).getD ((((frsY ((((2 ^ K) : Nat) : Int)) (((r : Nat) : Int))).getD i default)).toNat) default) : Int) < ((cmpTo K r (netK K (fillZ l (2 ^ K) (2 ^ K)) r) i).getD ((((frsZ ((((2 ^ K) : Nat) : Int)) (((r : Nat) : Int))).getD i default)).toNat) default))) == (up ((((2 ^ K) : Nat) : Int)) (((r : Nat) : Int)) ((frsZ ((((2 ^ K) : Nat) : Int)) (((r : Nat) : Int))).getD i default))) rfl b35 ?_
          refine x_gy (y_move rfl) rfl rfl rfl rfl (b' := (decide ((((cmpTo K r (netK K (fillZ l (2 ^ K) (2 ^ K)) r) i).getD ((((frsY ((((2 ^ K) : Nat) : Int)) (((r : Nat) : Int))).getD i default)).toNat) default) : Int) < ((cmpTo K r (netK K (fillZ l (2 ^ K) (2 ^ K)) r) i).getD ((((frsZ ((((2 ^ K) : Nat) : Int)) (((r : Nat) : Int))).getD i default)).toNat) default))) == (up ((((2 ^ K) : Nat) : Int)) (((r : Nat) : Int)) ((frsZ ((((2 ^ K) : Nat) : Int)) (((r : Nat) : Int))).getD i default))) rfl b35 ?_
          refine x_gy (y_idx (o := ((((frsZ ((((2 ^ K) : Nat) : Int)) (((r : Nat) : Int))).getD i default)).toNat) * 1) rfl rfl Try.underlying39 Try.sizeOf3 (oslR (.t (.t (.t (.t .h))))) ((fl_len intV_len _).trans (by first | omega | (simp only [List.length_set, List.length_take, List.length_drop]; done) | (simp only [List.length_set, List.length_take, List.length_drop]; omega))) (by decide) (by omega) (by omega) (by omega)) rfl rfl rfl rfl (b' := (decide ((((cmpTo K r (netK K (fillZ l (2 ^ K) (2 ^ K)) r) i).getD ((((frsY ((((2 ^ K) : Nat) : Int)) (((r : Nat) : Int))).getD i default)).toNat) default) : Int) < ((cmpTo K r (netK K (fillZ l (2 ^ K) (2 ^ K)) r) i).getD ((((frsZ ((((2 ^ K) : Nat) : Int)) (((r : Nat) : Int))).getD i default)).toNat) default))) == (up ((((2 ^ K) : Nat) : Int)) (((r : Nat) : Int)) ((frsZ ((((2 ^ K) : Nat) : Int)) (((r : Nat) : Int))).getD i default))) rfl b35 ?_
          refine x_gy (y_load1 (v := .int .i64 (((cmpTo K r (netK K (fillZ l (2 ^ K) (2 ^ K)) r) i).getD ((((frsZ ((((2 ^ K) : Nat) : Int)) (((r : Nat) : Int))).getD i default)).toNat) default))) rfl Try.isAgg3 (rd1 (k := ((((frsZ ((((2 ^ K) : Nat) : Int)) (((r : Nat) : Int))).getD i default)).toNat) * 1) (oslR (.t (.t (.t (.t .h))))) (fl_get0 intV_len (cmpTo K r (netK K (fillZ l (2 ^ K) (2 ^ K)) r) i) ((((frsZ ((((2 ^ K) : Nat) : Int)) (((r : Nat) : Int))).getD i default)).toNat) (by first | omega | (simp only [List.length_set, List.length_take, List.length_drop]; done) | (simp only [List.length_set, List.length_take, List.length_drop]; omega)) rfl))) rfl rfl rfl rfl (b' := (decide ((((cmpTo K r (netK K (fillZ l (2 ^ K) (2 ^ K)) r) i).getD ((((frsY ((((2 ^ K) : Nat) : Int)) (((r : Nat) : Int))).getD i default)).toNat) default) : Int) < ((cmpTo K r (netK K (fillZ l (2 ^ K) (2 ^ K)) r) i).getD ((((frsZ ((((2 ^ K) : Nat) : Int)) (((r : Nat) : Int))).getD i default)).toNat) default))) == (up ((((2 ^ K) : Nat) : Int)) (((r : Nat) : Int)) ((frsZ ((((2 ^ K) : Nat) : Int)) (((r : Nat) : Int))).getD i default))) rfl b35 ?_
          refine x_gy (y_move h5_33) rfl rfl rfl rfl (b' := (decide ((((cmpTo K r (netK K (fillZ l (2 ^ K) (2 ^ K)) r) i).getD ((((frsY ((((2 ^ K) : Nat) : Int)) (((r : Nat) : Int))).getD i default)).toNat) default) : Int) < ((cmpTo K r (netK K (fillZ l (2 ^ K) (2 ^ K)) r) i).getD ((((frsZ ((((2 ^ K) : Nat) : Int)) (((r : Nat) : Int))).getD i default)).toNat) default))) == (up ((((2 ^ K) : Nat) : Int)) (((r : Nat) : Int)) ((frsZ ((((2 ^ K) : Nat) : Int)) (((r : Nat) : Int))).getD i default))) rfl b35 ?_
          refine x_gy (y_move rfl) rfl rfl rfl rfl (b' := (decide ((((cmpTo K r (netK K (fillZ l (2 ^ K) (2 ^ K)) r) i).getD ((((frsY ((((2 ^ K) : Nat) : Int)) (((r : Nat) : Int))).getD i default)).toNat) default) : Int) < ((cmpTo K r (netK K (fillZ l (2 ^ K) (2 ^ K)) r) i).getD ((((frsZ ((((2 ^ K) : Nat) : Int)) (((r : Nat) : Int))).getD i default)).toNat) default))) == (up ((((2 ^ K) : Nat) : Int)) (((r : Nat) : Int)) ((frsZ ((((2 ^ K) : Nat) : Int)) (((r : Nat) : Int))).getD i default))) rfl b35 ?_
          refine x_gy (y_idx (o := ((((frsY ((((2 ^ K) : Nat) : Int)) (((r : Nat) : Int))).getD i default)).toNat) * 1) rfl rfl Try.underlying39 Try.sizeOf3 (oslR (.t (.t (.t (.t .h))))) ((fl_len intV_len _).trans (by first | omega | (simp only [List.length_set, List.length_take, List.length_drop]; done) | (simp only [List.length_set, List.length_take, List.length_drop]; omega))) (by decide) (by omega) (by omega) (by omega)) rfl rfl rfl rfl (b' := (decide ((((cmpTo K r (netK K (fillZ l (2 ^ K) (2 ^ K)) r) i).getD ((((frsY ((((2 ^ K) : Nat) : Int)) (((r : Nat) : Int))).getD i default)).toNat) default) : Int) < ((cmpTo K r (netK K (fillZ l (2 ^ K) (2 ^ K)) r) i).getD ((((frsZ ((((2 ^ K) : Nat) : Int)) (((r : Nat) : Int))).getD i default)).toNat) default))) == (up ((((2 ^ K) : Nat) : Int)) (((r : Nat) : Int)) ((frsZ ((((2 ^ K) : Nat) : Int)) (((r : Nat) : Int))).getD i default))) rfl b35 ?_
          refine x_gy (y_load1 (v := .int .i64 (((cmpTo K r (netK K (fillZ l (2 ^ K) (2 ^ K)) r) i).getD ((((frsY ((((2 ^ K) : Nat) : Int)) (((r : Nat) : Int))).getD i default)).toNat) default))) rfl Try.isAgg3 (rd1 (k := ((((frsY ((((2 ^ K) : Nat) : Int)) (((r : Nat) : Int))).getD i default)).toNat) * 1) (oslR (.t (.t (.t (.t .h))))) (fl_get0 intV_len (cmpTo K r (netK K (fillZ l (2 ^ K) (2 ^ K)) r) i) ((((frsY ((((2 ^ K) : Nat) : Int)) (((r : Nat) : Int))).getD i default)).toNat) (by first | omega | (simp only [List.length_set, List.length_take, List.length_drop]; done) | (simp only [List.length_set, List.length_take, List.length_drop]; omega)) rfl))) rfl rfl rfl rfl (b' := (decide ((((cmpTo K r (netK K (fillZ l (2 ^ K) (2 ^ K)) r) i).getD ((((frsY ((((2 ^ K) : Nat) : Int)) (((r : Nat) : Int))).getD i default)).toNat) default) : Int) < ((cmpTo K r (netK K (fillZ l (2 ^ K) (2 ^ K)) r) i).getD ((((frsZ ((((2 ^ K) : Nat) : Int)) (((r : Nat) : Int))).getD i default)).toNat) default))) == (up ((((2 ^ K) : Nat) : Int)) (((r : Nat) : Int)) ((frsZ ((((2 ^ K) : Nat) : Int)) (((r : Nat) : Int))).getD i default))) rfl b35 ?_
          refine x_gy (y_neq (a := ((cmpTo K r (netK K (fillZ l (2 ^ K) (2 ^ K)) r) i).getD ((((frsZ ((((2 ^ K) : Nat) : Int)) (((r : Nat) : Int))).getD i default)).toNat) default)) (b := ((cmpTo K r (netK K (fillZ l (2 ^ K) (2 ^ K)) r) i).getD ((((frsY ((((2 ^ K) : Nat) : Int)) (((r : Nat) : Int))).getD i default)).toNat) default)) rfl rfl rfl) rfl rfl rfl rfl (b' := (decide ((((cmpTo K r (netK K (fillZ l (2 ^ K) (2 ^ K)) r) i).getD ((((frsY ((((2 ^ K) : Nat) : Int)) (((r : Nat) : Int))).getD i default)).toNat) default) : Int) < ((cmpTo K r (netK K (fillZ l (2 ^ K) (2 ^ K)) r) i).getD ((((frsZ ((((2 ^ K) : Nat) : Int)) (((r : Nat) : Int))).getD i default)).toNat) default))) == (up ((((2 ^ K) : Nat) : Int)) (((r : Nat) : Int)) ((frsZ ((((2 ^ K) : Nat) : Int)) (((r : Nat) : Int))).getD i default))) rfl b35 ?_
          refine x_y (v := .bool (decide ((((cmpTo K r (netK K (fillZ l (2 ^ K) (2 ^ K)) r) i).getD ((((frsZ ((((2 ^ K) : Nat) : Int)) (((r : Nat) : Int))).getD i default)).toNat) default) : Int) ≠ ((cmpTo K r (netK K (fillZ l (2 ^ K) (2 ^ K)) r) i).getD ((((frsY ((((2 ^ K) : Nat) : Int)) (((r : Nat) : Int))).getD i default)).toNat) default)))) (y_pickT (b := (decide ((((cmpTo K r (netK K (fillZ l (2 ^ K) (2 ^ K)) r) i).getD ((((frsY ((((2 ^ K) : Nat) : Int)) (((r : Nat) : Int))).getD i default)).toNat) default) : Int) < ((cmpTo K r (netK K (fillZ l (2 ^ K) (2 ^ K)) r) i).getD ((((frsZ ((((2 ^ K) : Nat) : Int)) (((r : Nat) : Int))).getD i default)).toNat) default))) == (up ((((2 ^ K) : Nat) : Int)) (((r : Nat) : Int)) ((frsZ ((((2 ^ K) : Nat) : Int)) (((r : Nat) : Int))).getD i default))) (v := .bool (decide ((((cmpTo K r (netK K (fillZ l (2 ^ K) (2 ^ K)) r) i).getD ((((frsZ ((((2 ^ K) : Nat) : Int)) (((r : Nat) : Int))).getD i default)).toNat) default) : Int) ≠ ((cmpTo K r (netK K (fillZ l (2 ^ K) (2 ^ K)) r) i).getD ((((frsY ((((2 ^ K) : Nat) : Int)) (((r : Nat) : Int))).getD i default)).toNat) default)))) rfl b35 rfl) rfl ?_
          refine x_nil ?_
          refine thenS_n ?_
          refine wpS_cond (t := decide ((((cmpTo K r (netK K (fillZ l (2 ^ K) (2 ^ K)) r) i).getD ((((frsZ ((((2 ^ K) : Nat) : Int)) (((r : Nat) : Int))).getD i default)).toNat) default) : Int) ≠ ((cmpTo K r (netK K (fillZ l (2 ^ K) (2 ^ K)) r) i).getD ((((frsY ((((2 ^ K) : Nat) : Int)) (((r : Nat) : Int))).getD i default)).toNat) default))) rfl (fun b36 => ?_) (fun b36 => ?_)
          · -- decide ((((cmpTo K r (netK K (fillZ l (2 ^ K) (2 ^ K)) r) i).getD ((((frsZ ((((2 ^ K) : Nat) : Int)) (((r : Nat) : Int))).getD i default)).toNat) default) : Int) ≠ ((cmpTo K r (netK K (fillZ l (2 ^ K) (2 ^ K)) r) i).getD ((((frsY ((((2 ^ K) : Nat) : Int)) (((r : Nat) : Int))).getD i default)).toNat) default)) true
            have p36 := of_decide_eq_true b36
            have hne := of_decide_eq_true b36
            refine wpS_anyL [osl ba (2 ^ K) (2 ^ K) 1 3 ((cmpTo K r (netK K (fillZ l (2 ^ K) (2 ^ K)) r) i).flatMap intV)] [2, 3, 13, 14, 15] (by kernel_rfl) ?_
            refine anyS_takeF (i := 2) rfl (by kernel_rfl) (by kernel_rfl) (by kernel_rfl) (by kernel_rfl) (Yq.of (v := .slice ba (2 ^ K) (2 ^ K)) (y_move h5_33) rfl) ?_
            refine anyS_takeF (i := 3) rfl (by kernel_rfl) (by kernel_rfl) (by kernel_rfl) (by kernel_rfl) (Yq.of (v := .int .i64 (((frsY ((((2 ^ K) : Nat) : Int)) (((r : Nat) : Int))).getD i default))) (y_move rfl) rfl) ?_
            refine anyS_take (i := 0) rfl (by kernel_rfl) (by kernel_rfl) (by kernel_rfl) (by kernel_rfl) (Yq.of (v := .slice ba (2 ^ K) (2 ^ K)) (y_move h5_33) rfl) (.p (.t (.t (.t (.t .h)))) .nil) ?_
            refine anyS_take (i := 1) rfl (by kernel_rfl) (by kernel_rfl) (by kernel_rfl) (by kernel_rfl) (Yq.of (v := .int .i64 (((frsZ ((((2 ^ K) : Nat) : Int)) (((r : Nat) : Int))).getD i default))) (y_move rfl) rfl) (.p (.t (.t (.t (.t .h)))) .nil) ?_
            refine anyS_take (i := 4) rfl (by kernel_rfl) (by kernel_rfl) (by kernel_rfl) (by kernel_rfl) (Yq.of (v := .slice ba (2 ^ K) (2 ^ K)) (y_move h5_33) rfl) (.p (.t (.t (.t (.t .h)))) .nil) ?_
            refine anyS_take (i := 5) rfl (by kernel_rfl) (by kernel_rfl) (by kernel_rfl) (by kernel_rfl) (Yq.of (v := .int .i64 (((frsY ((((2 ^ K) : Nat) : Int)) (((r : Nat) : Int))).getD i default))) (y_move rfl) rfl) (.p (.t (.t (.t (.t .h)))) .nil) ?_
            refine anyS_take (i := 6) rfl (by kernel_rfl) (by kernel_rfl) (by kernel_rfl) (by kernel_rfl) (Yq.of (v := .pointer (some ⟨aB ba, aO ba + ((((frsY ((((2 ^ K) : Nat) : Int)) (((r : Nat) : Int))).getD i default)).toNat) * 1, none⟩)) (y_idx (o := ((((frsY ((((2 ^ K) : Nat) : Int)) (((r : Nat) : Int))).getD i default)).toNat) * 1) rfl rfl Try.underlying39 Try.sizeOf3 (oslR .h) ((fl_len intV_len _).trans (by first | omega | (simp only [List.length_set, List.length_take, List.length_drop]; done) | (simp only [List.length_set, List.length_take, List.length_drop]; omega))) (by decide) (by omega) (by omega) (by omega)) rfl) (.p (.t (.t (.t (.t .h)))) .nil) ?_
            refine anyS_take (i := 7) rfl (by kernel_rfl) (by kernel_rfl) (by kernel_rfl) (by kernel_rfl) (Yq.of (v := .int .i64 (((cmpTo K r (netK K (fillZ l (2 ^ K) (2 ^ K)) r) i).getD ((((frsY ((((2 ^ K) : Nat) : Int)) (((r : Nat) : Int))).getD i default)).toNat) default))) (y_load1 (v := .int .i64 (((cmpTo K r (netK K (fillZ l (2 ^ K) (2 ^ K)) r) i).getD ((((frsY ((((2 ^ K) : Nat) : Int)) (((r : Nat) : Int))).getD i default)).toNat) default))) rfl Try.isAgg3 (rd1 (k := ((((frsY ((((2 ^ K) : Nat) : Int)) (((r : Nat) : Int))).getD i default)).toNat) * 1) (oslR .h) (fl_get0 intV_len (cmpTo K r (netK K (fillZ l (2 ^ K) (2 ^ K)) r) i) ((((frsY ((((2 ^ K) : Nat) : Int)) (((r : Nat) : Int))).getD i default)).toNat) (by first | omega | (simp only [List.length_set, List.length_take, List.length_drop]; done) | (simp only [List.length_set, List.length_take, List.length_drop]; omega)) rfl))) rfl) (.p (.t (.t (.t (.t .h)))) .nil) ?_
            refine anyS_take (i := 8) rfl (by kernel_rfl) (by kernel_rfl) (by kernel_rfl) (by kernel_rfl) (Yq.of (v := .slice ba (2 ^ K) (2 ^ K)) (y_move h5_33) rfl) (.p (.t (.t (.t (.t .h)))) .nil) ?_
            refine anyS_take (i := 9) rfl (by kernel_rfl) (by kernel_rfl) (by kernel_rfl) (by kernel_rfl) (Yq.of (v := .int .i64 (((frsZ ((((2 ^ K) : Nat) : Int)) (((r : Nat) : Int))).getD i default))) (y_move rfl) rfl) (.p (.t (.t (.t (.t .h)))) .nil) ?_
            refine anyS_take (i := 10) rfl (by kernel_rfl) (by kernel_rfl) (by kernel_rfl) (by kernel_rfl) (Yq.of (v := .pointer (some ⟨aB ba, aO ba + ((((frsZ ((((2 ^ K) : Nat) : Int)) (((r : Nat) : Int))).getD i default)).toNat) * 1, none⟩)) (y_idx (o := ((((frsZ ((((2 ^ K) : Nat) : Int)) (((r : Nat) : Int))).getD i default)).toNat) * 1) rfl rfl Try.underlying39 Try.sizeOf3 (oslR .h) ((fl_len intV_len _).trans (by first | omega | (simp only [List.length_set, List.length_take, List.length_drop]; done) | (simp only [List.length_set, List.length_take, List.length_drop]; omega))) (by decide) (by omega) (by omega) (by omega)) rfl) (.p (.t (.t (.t (.t .h)))) .nil) ?_
            refine anyS_take (i := 11) rfl (by kernel_rfl) (by kernel_rfl) (by kernel_rfl) (by kernel_rfl) (Yq.of (v := .int .i64 (((cmpTo K r (netK K (fillZ l (2 ^ K) (2 ^ K)) r) i).getD ((((frsZ ((((2 ^ K) : Nat) : Int)) (((r : Nat) : Int))).getD i default)).toNat) default))) (y_load1 (v := .int .i64 (((cmpTo K r (netK K (fillZ l (2 ^ K) (2 ^ K)) r) i).getD ((((frsZ ((((2 ^ K) : Nat) : Int)) (((r : Nat) : Int))).getD i default)).toNat) default))) rfl Try.isAgg3 (rd1 (k := ((((frsZ ((((2 ^ K) : Nat) : Int)) (((r : Nat) : Int))).getD i default)).toNat) * 1) (oslR .h) (fl_get0 intV_len (cmpTo K r (netK K (fillZ l (2 ^ K) (2 ^ K)) r) i) ((((frsZ ((((2 ^ K) : Nat) : Int)) (((r : Nat) : Int))).getD i default)).toNat) (by first | omega | (simp only [List.length_set, List.length_take, List.length_drop]; done) | (simp only [List.length_set, List.length_take, List.length_drop]; omega)) rfl))) rfl) (.p (.t (.t (.t (.t .h)))) .nil) ?_
            refine anyS_take (i := 12) rfl (by kernel_rfl) (by kernel_rfl) (by kernel_rfl) (by kernel_rfl) (Yq.of (v := .pointer (some ⟨aB ba, aO ba + ((((frsZ ((((2 ^ K) : Nat) : Int)) (((r : Nat) : Int))).getD i default)).toNat) * 1, none⟩)) (y_idx (o := ((((frsZ ((((2 ^ K) : Nat) : Int)) (((r : Nat) : Int))).getD i default)).toNat) * 1) rfl rfl Try.underlying39 Try.sizeOf3 (oslR .h) ((fl_len intV_len _).trans (by first | omega | (simp only [List.length_set, List.length_take, List.length_drop]; done) | (simp only [List.length_set, List.length_take, List.length_drop]; omega))) (by decide) (by omega) (by omega) (by omega)) rfl) (.p (.t (.t (.t (.t .h)))) .nil) ?_
            refine anyS_all (rs := [13]) (by kernel_rfl) (by simp) ?_
            intro i hi; obtain rfl := List.mem_singleton.1 hi; clear hi
            refine opS_0 rfl rfl ?_
            refine e_storeL' (enc := intV) (xs := (cmpTo K r (netK K (fillZ l (2 ^ K) (2 ^ K)) r) i)) (y := ((cmpTo K r (netK K (fillZ l (2 ^ K) (2 ^ K)) r) i).getD ((((frsY ((((2 ^ K) : Nat) : Int)) (((r : Nat) : Int))).getD i default)).toNat) default)) (zs := ((cmpTo K r (netK K (fillZ l (2 ^ K) (2 ^ K)) r) i).set ((((frsZ ((((2 ^ K) : Nat) : Int)) (((r : Nat) : Int))).getD i default)).toNat) ((cmpTo K r (netK K (fillZ l (2 ^ K) (2 ^ K)) r) i).getD ((((frsY ((((2 ^ K) : Nat) : Int)) (((r : Nat) : Int))).getD i default)).toNat) default))) intV_len intV_one (by decide) rfl rfl rfl Try.sizeOf3 (.t (.t (.t (.t .h)))) (by (try simp only [List.length_set]); omega) rfl ?_
            refine ⟨.inl (by simp), ?_⟩
            refine anyS_all (rs := [14]) (by kernel_rfl) (by simp) ?_
            intro i hi; obtain rfl := List.mem_singleton.1 hi; clear hi
            refine opS_0 rfl rfl ?_
            refine OpE.y (v := .pointer (some ⟨aB ba, aO ba + ((((frsY ((((2 ^ K) : Nat) : Int)) (((r : Nat) : Int))).getD i default)).toNat) * 1, none⟩)) (y_idx (o := ((((frsY ((((2 ^ K) : Nat) : Int)) (((r : Nat) : Int))).getD i default)).toNat) * 1) rfl rfl Try.underlying39 Try.sizeOf3 (oslR .h) ((fl_len intV_len _).trans (by first | omega | (simp only [List.length_set, List.length_take, List.length_drop]; done) | (simp only [List.length_set, List.length_take, List.length_drop]; omega))) (by decide) (by omega) (by omega) (by omega)) ?_
            refine ⟨.inl (by simp), ?_⟩
            refine anyS_all (rs := [15]) (by kernel_rfl) (by simp) ?_
            intro i hi; obtain rfl := List.mem_singleton.1 hi; clear hi
            refine opS_0 rfl rfl ?_
            refine e_storeL' (enc := intV) (xs := ((cmpTo K r (netK K (fillZ l (2 ^ K) (2 ^ K)) r) i).set ((((frsZ ((((2 ^ K) : Nat) : Int)) (((r : Nat) : Int))).getD i default)).toNat) ((cmpTo K r (netK K (fillZ l (2 ^ K) (2 ^ K)) r) i).getD ((((frsY ((((2 ^ K) : Nat) : Int)) (((r : Nat) : Int))).getD i default)).toNat) default))) (y := ((cmpTo K r (netK K (fillZ l (2 ^ K) (2 ^ K)) r) i).getD ((((frsZ ((((2 ^ K) : Nat) : Int)) (((r : Nat) : Int))).getD i default)).toNat) default)) (zs := (cmpTo K r (netK K (fillZ l (2 ^ K) (2 ^ K)) r) (i + 1))) intV_len intV_one (by decide) rfl rfl rfl Try.sizeOf3 .h (by (try simp only [List.length_set]); omega) (cmp_swap1 (by omega) hfi hcond hne) ?_
            refine ⟨.inl (by simp), ?_⟩
            refine anyS_done (by kernel_rfl) ?_
            refine blockS_n ?_
            refine thenS_n ?_
            refine wpS_region ?_
            refine s_y (v := .int .i64 (((i : Nat) : Int))) (y_move h11_33) rfl ?_
            refine s_y (v := .int .i64 ((((i + 1) : Nat) : Int))) (y_add (a := ((i : Nat) : Int)) (b := 1) (c := (((i + 1) : Nat) : Int)) rfl rfl (wI (by omega) (by omega) (by omega))) rfl ?_
            refine s_y (v := .int .i64 ((((i + 1) : Nat) : Int))) (y_assign rfl) rfl ?_
            refine wpL_nil ?_
            refine thenS_n ?_
            try first | rw [← cmp_skipA (K := K) (r := r) (i := i) (by omega) hfi (by assumption)] | rw [← cmp_skipB (K := K) (r := r) (i := i) (by omega) hfi (by assumption)]
            exact ⟨_, by omega, ⟨(i + 1), rfl, by omega, rfl, h1_33, h5_33, h7_33, h8_33, h9_33, rfl, .p (.t .h) (.p (.t .h) (.p (.t .h) (.p (.t .h) (.p .h .nil))))⟩⟩
          · -- decide ((((cmpTo K r (netK K (fillZ l (2 ^ K) (2 ^ K)) r) i).getD ((((frsZ ((((2 ^ K) : Nat) : Int)) (((r : Nat) : Int))).getD i default)).toNat) default) : Int) ≠ ((cmpTo K r (netK K (fillZ l (2 ^ K) (2 ^ K)) r) i).getD ((((frsY ((((2 ^ K) : Nat) : Int)) (((r : Nat) : Int))).getD i default)).toNat) default)) false
            have p36 := of_decide_eq_false b36
            refine wpS_skip ?_
            refine blockS_n ?_
            refine thenS_n ?_
            refine wpS_region ?_
            refine s_y (v := .int .i64 (((i : Nat) : Int))) (y_move h11_33) rfl ?_
            refine s_y (v := .int .i64 ((((i + 1) : Nat) : Int))) (y_add (a := ((i : Nat) : Int)) (b := 1) (c := (((i + 1) : Nat) : Int)) rfl rfl (wI (by omega) (by omega) (by omega))) rfl ?_
            refine s_y (v := .int .i64 ((((i + 1) : Nat) : Int))) (y_assign rfl) rfl ?_
            refine wpL_nil ?_
            refine thenS_n ?_
            try first | rw [← cmp_skipA (K := K) (r := r) (i := i) (by omega) hfi (by assumption)] | rw [← cmp_skipB (K := K) (r := r) (i := i) (by omega) hfi (by assumption)]
            exact ⟨_, by omega, ⟨(i + 1), rfl, by omega, rfl, h1_33, h5_33, h7_33, h8_33, h9_33, rfl, .p .h (.p .h (.p .h (.p .h (.p .h .nil))))⟩⟩
        · -- (decide ((((cmpTo K r (netK K (fillZ l (2 ^ K) (2 ^ K)) r) i).getD ((((frsY ((((2 ^ K) : Nat) : Int)) (((r : Nat) : Int))).getD i default)).toNat) default) : Int) < ((cmpTo K r (netK K (fillZ l (2 ^ K) (2 ^ K)) r) i).getD ((((frsZ ((((2 ^ K) : Nat) : Int)) (((r : Nat) : Int))).getD i default)).toNat) default))) == (up ((((2 ^ K) : Nat) : Int)) (((r : Nat) : Int)) ((frsZ ((((2 ^ K) : Nat) : Int)) (((r : Nat) : Int))).getD i default)) False
          refine x_no rfl rfl rfl rfl (b' := (decide ((((cmpTo K r (netK K (fillZ l (2 ^ K) (2 ^ K)) r) i).getD ((((frsY ((((2 ^ K) : Nat) : Int)) (((r : Nat) : Int))).getD i default)).toNat) default) : Int) < ((cmpTo K r (netK K (fillZ l (2 ^ K) (2 ^ K)) r) i).getD ((((frsZ ((((2 ^ K) : Nat) : Int)) (((r : Nat) : Int))).getD i default)).toNat) default))) == (up ((((2 ^ K) : Nat) : Int)) (((r : Nat) : Int)) ((frsZ ((((2 ^ K) : Nat) : Int)) (((r : Nat) : Int))).getD i default))) rfl b35 ?_
          refine x_no rfl rfl rfl rfl (b' := (decide ((((cmpTo K r (netK K (fillZ l (2 ^ K) (2 ^ K)) r) i).getD ((((frsY ((((2 ^ K) : Nat) : Int)) (((r : Nat) : Int))).getD i default)).toNat) default) : Int) < ((cmpTo K r (netK K (fillZ l (2 ^ K) (2 ^ K)) r) i).getD ((((frsZ ((((2 ^ K) : Nat) : Int)) (((r : Nat) : Int))).getD i default)).toNat) default))) == (up ((((2 ^ K) : Nat) : Int)) (((r : Nat) : Int)) ((frsZ ((((2 ^ K) : Nat) : Int)) (((r : Nat) : Int))).getD i default))) rfl b35 ?_
          refine x_no rfl rfl rfl rfl (b' := (decide ((((cmpTo K r (netK K (fillZ l (2 ^ K) (2 ^ K)) r) i).getD ((((frsY ((((2 ^ K) : Nat) : Int)) (((r : Nat) : Int))).getD i default)).toNat) default) : Int) < ((cmpTo K r (netK K (fillZ l (2 ^ K) (2 ^ K)) r) i).getD ((((frsZ ((((2 ^ K) : Nat) : Int)) (((r : Nat) : Int))).getD i default)).toNat) default))) == (up ((((2 ^ K) : Nat) : Int)) (((r : Nat) : Int)) ((frsZ ((((2 ^ K) : Nat) : Int)) (((r : Nat) : Int))).getD i default))) rfl b35 ?_
          refine x_no rfl rfl rfl rfl (b' := (decide ((((cmpTo K r (netK K (fillZ l (2 ^ K) (2 ^ K)) r) i).getD ((((frsY ((((2 ^ K) : Nat) : Int)) (((r : Nat) : Int))).getD i default)).toNat) default) : Int) < ((cmpTo K r (netK K (fillZ l (2 ^ K) (2 ^ K)) r) i).getD ((((frsZ ((((2 ^ K) : Nat) : Int)) (((r : Nat) : Int))).getD i default)).toNat) default))) == (up ((((2 ^ K) : Nat) : Int)) (((r : Nat) : Int)) ((frsZ ((((2 ^ K) : Nat) : Int)) (((r : Nat) : Int))).getD i default))) rfl b35 ?_
          refine x_no rfl rfl rfl rfl (b' := (decide ((((cmpTo K r (netK K (fillZ l (2 ^ K) (2 ^ K)) r) i).getD ((((frsY ((((2 ^ K) : Nat) : Int)) (((r : Nat) : Int))).getD i default)).toNat) default) : Int) < ((cmpTo K r (netK K (fillZ l (2 ^ K) (2 ^ K)) r) i).getD ((((frsZ ((((2 ^ K) : Nat) : Int)) (((r : Nat) : Int))).getD i default)).toNat) default))) == (up ((((2 ^ K) : Nat) : Int)) (((r : Nat) : Int)) ((frsZ ((((2 ^ K) : Nat) : Int)) (((r : Nat) : Int))).getD i default))) rfl b35 ?_
          refine x_no rfl rfl rfl rfl (b' := (decide ((((cmpTo K r (netK K (fillZ l (2 ^ K) (2 ^ K)) r) i).getD ((((frsY ((((2 ^ K) : Nat) : Int)) (((r : Nat) : Int))).getD i default)).toNat) default) : Int) < ((cmpTo K r (netK K (fillZ l (2 ^ K) (2 ^ K)) r) i).getD ((((frsZ ((((2 ^ K) : Nat) : Int)) (((r : Nat) : Int))).getD i default)).toNat) default))) == (up ((((2 ^ K) : Nat) : Int)) (((r : Nat) : Int)) ((frsZ ((((2 ^ K) : Nat) : Int)) (((r : Nat) : Int))).getD i default))) rfl b35 ?_
          refine x_no rfl rfl rfl rfl (b' := (decide ((((cmpTo K r (netK K (fillZ l (2 ^ K) (2 ^ K)) r) i).getD ((((frsY ((((2 ^ K) : Nat) : Int)) (((r : Nat) : Int))).getD i default)).toNat) default) : Int) < ((cmpTo K r (netK K (fillZ l (2 ^ K) (2 ^ K)) r) i).getD ((((frsZ ((((2 ^ K) : Nat) : Int)) (((r : Nat) : Int))).getD i default)).toNat) default))) == (up ((((2 ^ K) : Nat) : Int)) (((r : Nat) : Int)) ((frsZ ((((2 ^ K) : Nat) : Int)) (((r : Nat) : Int))).getD i default))) rfl b35 ?_
          refine x_no rfl rfl rfl rfl (b' := (decide ((((cmpTo K r (netK K (fillZ l (2 ^ K) (2 ^ K)) r) i).getD ((((frsY ((((2 ^ K) : Nat) : Int)) (((r : Nat) : Int))).getD i default)).toNat) default) : Int) < ((cmpTo K r (netK K (fillZ l (2 ^ K) (2 ^ K)) r) i).getD ((((frsZ ((((2 ^ K) : Nat) : Int)) (((r : Nat) : Int))).getD i default)).toNat) default))) == (up ((((2 ^ K) : Nat) : Int)) (((r : Nat) : Int)) ((frsZ ((((2 ^ K) : Nat) : Int)) (((r : Nat) : Int))).getD i default))) rfl b35 ?_
          refine x_no rfl rfl rfl rfl (b' := (decide ((((cmpTo K r (netK K (fillZ l (2 ^ K) (2 ^ K)) r) i).getD ((((frsY ((((2 ^ K) : Nat) : Int)) (((r : Nat) : Int))).getD i default)).toNat) default) : Int) < ((cmpTo K r (netK K (fillZ l (2 ^ K) (2 ^ K)) r) i).getD ((((frsZ ((((2 ^ K) : Nat) : Int)) (((r : Nat) : Int))).getD i default)).toNat) default))) == (up ((((2 ^ K) : Nat) : Int)) (((r : Nat) : Int)) ((frsZ ((((2 ^ K) : Nat) : Int)) (((r : Nat) : Int))).getD i default))) rfl b35 ?_
          refine x_y (v := .bool false) (y_pickF (b := (decide ((((cmpTo K r (netK K (fillZ l (2 ^ K) (2 ^ K)) r) i).getD ((((frsY ((((2 ^ K) : Nat) : Int)) (((r : Nat) : Int))).getD i default)).toNat) default) : Int) < ((cmpTo K r (netK K (fillZ l (2 ^ K) (2 ^ K)) r) i).getD ((((frsZ ((((2 ^ K) : Nat) : Int)) (((r : Nat) : Int))).getD i default)).toNat) default))) == (up ((((2 ^ K) : Nat) : Int)) (((r : Nat) : Int)) ((frsZ ((((2 ^ K) : Nat) : Int)) (((r : Nat) : Int))).getD i default))) (v := .bool false) rfl b35 rfl) rfl ?_
          refine x_nil ?_
          refine thenS_n ?_
          refine wpS_cond_f rfl ?_
          refine wpS_skip ?_
          refine blockS_n ?_
          refine thenS_n ?_
          refine wpS_region ?_
          refine s_y (v := .int .i64 (((i : Nat) : Int))) (y_move h11_33) rfl ?_
          refine s_y (v := .int .i64 ((((i + 1) : Nat) : Int))) (y_add (a := ((i : Nat) : Int)) (b := 1) (c := (((i + 1) : Nat) : Int)) rfl rfl (wI (by omega) (by omega) (by omega))) rfl ?_
          refine s_y (v := .int .i64 ((((i + 1) : Nat) : Int))) (y_assign rfl) rfl ?_
          refine wpL_nil ?_
          refine thenS_n ?_
          try first | rw [← cmp_skipA (K := K) (r := r) (i := i) (by omega) hfi (by assumption)] | rw [← cmp_skipB (K := K) (r := r) (i := i) (by omega) hfi (by assumption)]
          exact ⟨_, by omega, ⟨(i + 1), rfl, by omega, rfl, h1_33, h5_33, h7_33, h8_33, h9_33, rfl, .p .h (.p .h (.p .h (.p .h (.p .h .nil))))⟩⟩
      · -- decide (i < ((frsZ ((((2 ^ K) : Nat) : Int)) (((r : Nat) : Int))).length)) false
        have p34 := of_decide_eq_false b34
        refine wpS_exit ?_
        refine thenS_x ?_
        refine thenS_x ?_
        refine blockS_h ?_
        refine blockS_n ?_
        refine thenS_n ?_
        refine wpS_region ?_
        refine s_y (v := .int .i64 (((r : Nat) : Int))) (y_move h7_33) rfl ?_
        refine s_y (v := .int .i64 ((((r + 1) : Nat) : Int))) (y_add (a := ((r : Nat) : Int)) (b := 1) (c := (((r + 1) : Nat) : Int)) rfl rfl (wI (by omega) (by omega) (by omega))) rfl ?_
        refine s_y (v := .int .i64 ((((r + 1) : Nat) : Int))) (y_assign rfl) rfl ?_
        refine wpL_nil ?_
        refine thenS_n ?_
        rw [cmpTo_all (K := K) (r := r) (i := i) (by omega) (by omega) (by rw [← frsZ_len]; omega)]
        exact ⟨_, by omega, ⟨(r + 1), rfl, by omega, rfl, h1_33, h5_33, rfl, .p (.t (.t (.t (.t .h)))) .nil⟩⟩
    · -- decide (r < (rnd ((((2 ^ K) : Nat) : Int)))) false
      have p24 := of_decide_eq_false b24
      refine wpS_exit ?_
      refine thenS_x ?_
      refine thenS_x ?_
      refine blockS_h ?_
      refine thenS_n ?_
      refine wpS_seq ?_
      refine wpS_seq ?_
      refine wpS_region ?_
      refine s_y (v := .int .i64 1) (y_assign rfl) rfl ?_
      refine wpL_nil ?_
      refine thenS_n ?_
      refine wpS_block ?_
      refine wpS_loop (fun m ds σ L => ∃ j : Nat, m = 2 ^ K - j ∧ (1 ≤ j) ∧ ds = [] ∧ σ 1 = .int .i64 ((((2 ^ K) : Nat) : Int)) ∧ σ 5 = .slice ba (2 ^ K) (2 ^ K) ∧ σ 14 = .int .i64 (((j : Nat) : Int)) ∧ Ent L [osl ba (2 ^ K) (2 ^ K) 1 3 ((netK K (fillZ l (2 ^ K) (2 ^ K)) r).flatMap intV)]) (m0 := 2 ^ K - 1) ⟨1, rfl, by omega, rfl, h1_23, h5_23, rfl, .p .h .nil⟩ ?_
      rintro m ds σ L ⟨j, hm_37, hf0_37, rfl, h1_37, h5_37, h14_37, hE_37⟩
      refine wpS_ent hE_37 ?_; clear hE_37
      refine wpS_seq ?_
      refine wpS_seq ?_
      refine wpS_region ?_
      refine s_y (v := .int .i64 (((j : Nat) : Int))) (y_move h14_37) rfl ?_
      refine s_y (v := .int .i64 ((((2 ^ K) : Nat) : Int))) (y_move h1_37) rfl ?_
      refine s_y (v := .bool (decide (j < (2 ^ K)))) (y_lss (a := ((j : Nat) : Int)) (b := (((2 ^ K) : Nat) : Int)) (c := decide (j < (2 ^ K))) rfl rfl (decide_eq_decide.2 (by omega))) rfl ?_
      refine wpL_nil ?_
      refine thenS_n ?_
      refine wpS_cond (t := decide (j < (2 ^ K))) rfl (fun b38 => ?_) (fun b38 => ?_)
      · -- decide (j < (2 ^ K)) true
        have p38 := of_decide_eq_true b38
        refine wpS_skip ?_
        refine thenS_n ?_
        refine wpS_seq ?_
        refine wpS_block ?_
        refine wpS_seq ?_
        refine wpS_lex (by kernel_rfl) (by kernel_rfl) ?_
        refine x_y (v := .slice ba (2 ^ K) (2 ^ K)) (y_move h5_37) rfl ?_
        refine x_y (v := .int .i64 (((j : Nat) : Int))) (y_move h14_37) rfl ?_
        refine x_y (v := .pointer (some ⟨aB ba, aO ba + j * 1, none⟩)) (y_idx (o := j * 1) rfl rfl Try.underlying39 Try.sizeOf3 (oslR .h) ((fl_len intV_len _).trans (by first | omega | (simp only [List.length_set, List.length_take, List.length_drop]; done) | (simp only [List.length_set, List.length_take, List.length_drop]; omega))) (by decide) (by omega) (by omega) (by omega)) rfl ?_
        refine x_y (v := .int .i64 (((netK K (fillZ l (2 ^ K) (2 ^ K)) r).getD j default))) (y_load1 (v := .int .i64 (((netK K (fillZ l (2 ^ K) (2 ^ K)) r).getD j default))) rfl Try.isAgg3 (rd1 (k := j * 1) (oslR .h) (fl_get0 intV_len (netK K (fillZ l (2 ^ K) (2 ^ K)) r) j (by first | omega | (simp only [List.length_set, List.length_take, List.length_drop]; done) | (simp only [List.length_set, List.length_take, List.length_drop]; omega)) rfl))) rfl ?_
        refine x_y (v := .slice ba (2 ^ K) (2 ^ K)) (y_move h5_37) rfl ?_
        refine x_y (v := .int .i64 (((j : Nat) : Int))) (y_move h14_37) rfl ?_
        refine x_y (v := .int .i64 ((((j - 1) : Nat) : Int))) (y_sub (a := ((j : Nat) : Int)) (b := 1) (c := (((j - 1) : Nat) : Int)) rfl rfl (wI (by omega) (by omega) (by omega))) rfl ?_
        refine x_y (v := .pointer (some ⟨aB ba, aO ba + (j - 1) * 1, none⟩)) (y_idx (o := (j - 1) * 1) rfl rfl Try.underlying39 Try.sizeOf3 (oslR .h) ((fl_len intV_len _).trans (by first | omega | (simp only [List.length_set, List.length_take, List.length_drop]; done) | (simp only [List.length_set, List.length_take, List.length_drop]; omega))) (by decide) (by omega) (by omega) (by omega)) rfl ?_
        refine x_y (v := .int .i64 (((netK K (fillZ l (2 ^ K) (2 ^ K)) r).getD (j - 1) default))) (y_load1 (v := .int .i64 (((netK K (fillZ l (2 ^ K) (2 ^ K)) r).getD (j - 1) default))) rfl Try.isAgg3 (rd1 (k := (j - 1) * 1) (oslR .h) (fl_get0 intV_len (netK K (fillZ l (2 ^ K) (2 ^ K)) r) (j - 1) (by first | omega | (simp only [List.length_set, List.length_take, List.length_drop]; done) | (simp only [List.length_set, List.length_take, List.length_drop]; omega)) rfl))) rfl ?_
        refine x_y (v := .bool (decide ((((netK K (fillZ l (2 ^ K) (2 ^ K)) r).getD j default) : Int) < ((netK K (fillZ l (2 ^ K) (2 ^ K)) r).getD (j - 1) default)))) (y_lss (a := ((netK K (fillZ l (2 ^ K) (2 ^ K)) r).getD j default)) (b := ((netK K (fillZ l (2 ^ K) (2 ^ K)) r).getD (j - 1) default)) rfl rfl rfl) rfl ?_
        refine x_nil ?_
        refine thenS_n ?_
        refine wpS_cond_F (t := decide ((((netK K (fillZ l (2 ^ K) (2 ^ K)) r).getD j default) : Int) < ((netK K (fillZ l (2 ^ K) (2 ^ K)) r).getD (j - 1) default))) rfl (decide_eq_false (fun h => absurd h (Int.not_lt.2 (net_sorted hK7 (by omega) (by omega))))) ?_
        refine wpS_skip ?_
        refine blockS_n ?_
        refine thenS_n ?_
        refine wpS_region ?_
        refine s_y (v := .int .i64 (((j : Nat) : Int))) (y_move h14_37) rfl ?_
        refine s_y (v := .int .i64 ((((j + 1) : Nat) : Int))) (y_add (a := ((j : Nat) : Int)) (b := 1) (c := (((j + 1) : Nat) : Int)) rfl rfl (wI (by omega) (by omega) (by omega))) rfl ?_
        refine s_y (v := .int .i64 ((((j + 1) : Nat) : Int))) (y_assign rfl) rfl ?_
        refine wpL_nil ?_
        refine thenS_n ?_
        exact ⟨_, by omega, ⟨(j + 1), rfl, by omega, rfl, h1_37, h5_37, rfl, .p .h .nil⟩⟩
      · -- decide (j < (2 ^ K)) false
        have p38 := of_decide_eq_false b38
        refine wpS_exit ?_
        refine thenS_x ?_
        refine thenS_x ?_
        refine blockS_h ?_
        refine thenS_n ?_
        refine wpS_seq ?_
        refine wpS_region ?_
        refine s_y (v := .bool true) (y_call (args := #[]) (v := .bool true) Try.call51 ev0 (fun w hs => awake13_c w)) rfl ?_
        refine s_y (v := .bool true) (y_assign rfl) rfl ?_
        refine wpL_nil ?_
        refine thenS_n ?_
        refine wpS_ret ?_
        refine fin1 (M := []) (v := .bool true) (.inr rfl) (.nil) Try.results8 rfl ?_
        exact fun w' hs => ⟨rfl, hs⟩

end Go.Proofs.Ytldkjjnjdjfipaa
