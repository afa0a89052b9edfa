/- A run's tasks as the reference lists them, walked. -/
import Derived.Test.YtldkjjnjdjfipaaWTsk1
import Derived.Test.YtldkjjnjdjfipaaWRndS
namespace Go.Proofs.Ytldkjjnjdjfipaa
open Go Go.RowKit
set_option linter.unusedVariables false
set_option linter.unusedSimpArgs false
set_option maxRecDepth 10000
set_option maxHeartbeats 1000000

theorem rowT_len (w : Nat) (k : Int) (r : Nat) : (rowT w k r).length = (frs ((w : Nat) : Int) ((r : Nat) : Int)).length := by simp [rowT]
theorem frsZ_ge {n r : Int} {i : Nat} (h : i < (frsZ n r).length) : (frsZ n r).getD i default = (((frs n r).getD i 0 : Nat) : Int) ∧ ((frs n r).getD i 0 : Int) < n := by
  have h2 : i < (frs n r).length := by rw [← frsZ_len]; exact h
  have h3 : (frs n r).getD i 0 ∈ frs n r := by rw [List.getD_eq_getElem?_getD, List.getElem?_eq_getElem h2]; exact List.getElem_mem h2
  refine ⟨?_, (frs_mem h3).2.1⟩
  unfold frsZ
  rw [List.getD_eq_getElem?_getD, List.getElem?_map, List.getD_eq_getElem?_getD, List.getElem?_eq_getElem h2]
  rfl
theorem rowT_next {w : Nat} {k : Int} {r i : Nat} (h : i < (frsZ ((w : Nat) : Int) ((r : Nat) : Int)).length) : (rowT w k r).take i ++ [Task.mk k ((r + 1 : Nat) : Int) ((frsZ ((w : Nat) : Int) ((r : Nat) : Int)).getD i default) ((frsZ ((w : Nat) : Int) ((r : Nat) : Int)).getD i default + ((far ((w : Nat) : Int) ((r : Nat) : Int) : Nat) : Int)) (up ((w : Nat) : Int) ((r : Nat) : Int) ((frsZ ((w : Nat) : Int) ((r : Nat) : Int)).getD i default))] = (rowT w k r).take (i + 1) := by
  have h2 : i < (frs ((w : Nat) : Int) ((r : Nat) : Int)).length := by rw [← frsZ_len]; exact h
  have h3 : (rowT w k r)[i]? = some (Task.mk k ((r + 1 : Nat) : Int) ((frsZ ((w : Nat) : Int) ((r : Nat) : Int)).getD i default) ((frsZ ((w : Nat) : Int) ((r : Nat) : Int)).getD i default + ((far ((w : Nat) : Int) ((r : Nat) : Int) : Nat) : Int)) (up ((w : Nat) : Int) ((r : Nat) : Int) ((frsZ ((w : Nat) : Int) ((r : Nat) : Int)).getD i default))) := by
    rw [(frsZ_ge h).1]
    unfold rowT
    rw [List.getElem?_map, List.getD_eq_getElem?_getD, List.getElem?_eq_getElem h2]
    rfl
  rw [List.take_add_one, h3]
  rfl
theorem sortsT_next (w : Nat) (k : Int) (r : Nat) : sortsT w k (r + 1) = sortsT w k r ++ rowT w k r := by unfold sortsT; rw [List.range_succ, List.flatMap_append]; simp
theorem sortsT_le (w : Nat) (k : Int) (r : Nat) (h : w ≤ 8) : (sortsT w k r).length ≤ r * 8 := by
  induction r with
  | zero => exact Nat.le_refl 0
  | succ r ih =>
    rw [sortsT_next, List.length_append, rowT_len]
    have := frs_len ((w : Nat) : Int) ((r : Nat) : Int)
    omega
theorem plT_next (k b : Int) (i : Nat) : (List.range (i + 1)).map (plT k b) = (List.range i).map (plT k b) ++ [Task.mk k 0 (b + ((i : Nat) : Int)) 0 false] := by rw [List.range_succ, List.map_append]; rfl

theorem rsorts_c (k : Int) (sw : Nat) (hsw : sw ≤ 8) (w : World) : MakesS Try.prog 183 #[.int .i64 k, .int .i64 ((sw : Nat) : Int)] w [] taskV 5 120 (sortsT sw k (rnd ((sw : Nat) : Int))) := by
  refine calls_S (n := 53) (σ0 := (upd (upd fr0 0 (.int .i64 k)) 1 (.int .i64 (((sw : Nat) : Int))))) (D := []) (A := []) Try.func183 rfl Try.ntmps183 rfl (a2_fr _ _) (SH.start w) ?_
  have hrn := rnd_le ((sw : Nat) : Int)
  refine wpS_seq ?_
  refine wpS_region ?_
  refine s_y (v := .slice none 0 0) (y_assign rfl) rfl ?_
  refine wpL_nil ?_
  refine thenS_n ?_
  refine wpS_seq ?_
  refine wpS_region ?_
  refine s_y (v := .slice none 0 0) (y_assign rfl) rfl ?_
  refine wpL_nil ?_
  refine thenS_n ?_
  refine wpS_seq ?_
  refine wpS_seq ?_
  refine wpS_region ?_
  refine s_y (v := .int .i64 0) (y_assign rfl) rfl ?_
  refine wpL_nil ?_
  refine thenS_n ?_
  refine wpS_block ?_
  refine wpS_nil0 5 120 ?_
  refine wpS_loop (fun mez ds σ L => ∃ r : Nat, ∃ xs : List Task, ∃ a1 : Option Addr, ∃ c1 : Nat, mez = rnd ((sw : Nat) : Int) - r ∧ (r ≤ rnd ((sw : Nat) : Int)) ∧ (xs.length ≤ r * 8) ∧ (xs = sortsT sw k r) ∧ ds = [] ∧ σ 0 = .int .i64 k ∧ σ 1 = .int .i64 (((sw : Nat) : Int)) ∧ σ 5 = .slice a1 xs.length c1 ∧ σ 6 = .int .i64 (((r : Nat) : Int)) ∧ Ent L [osl a1 c1 xs.length 5 120 (xs.flatMap taskV)]) (m0 := rnd ((sw : Nat) : Int) - 0) ⟨0, [], none, 0, rfl, by omega, by simp, rfl, rfl, rfl, rfl, rfl, rfl, .p .h .nil⟩ ?_
  rintro mez ds σ L ⟨r, xs, a1, c1, hm_1, hf0_1, hf1_1, hf2_1, rfl, h0_1, h1_1, h5_1, h6_1, hE_1⟩
  refine wpS_ent hE_1 ?_; clear hE_1
  refine wpS_seq ?_
  refine wpS_seq ?_
  refine wpS_region ?_
  refine s_y (v := .int .i64 (((r : Nat) : Int))) (y_move h6_1) rfl ?_
  refine s_y (v := .int .i64 (((sw : Nat) : Int))) (y_move h1_1) rfl ?_
  refine s_y (v := .int .i64 ((((rnd (((sw : Nat) : Int))) : Nat) : Int))) (y_call (args := #[.int .i64 (((sw : Nat) : Int))]) (v := .int .i64 ((((rnd (((sw : Nat) : Int))) : Nat) : Int))) Try.call56 (ev1 rfl) (fun w hs => rrnd_c (((sw : Nat) : Int)) (by omega) (by omega) w)) rfl ?_
  refine s_y (v := .bool (decide (r < (rnd (((sw : Nat) : Int)))))) (y_lss (a := ((r : Nat) : Int)) (b := (((rnd (((sw : Nat) : Int))) : Nat) : Int)) (c := decide (r < (rnd (((sw : Nat) : Int))))) rfl rfl (decide_eq_decide.2 (by omega))) rfl ?_
  refine wpL_nil ?_
  refine thenS_n ?_
  refine wpS_cond (t := decide (r < (rnd (((sw : Nat) : Int))))) rfl (fun b2 => ?_) (fun b2 => ?_)
  · -- decide (r < (rnd (((sw : Nat) : Int)))) true
    have p2 := of_decide_eq_true b2
    refine wpS_skip ?_
    refine thenS_n ?_
    refine wpS_seq ?_
    refine wpS_block ?_
    refine wpS_seq ?_
    refine wpS_region ?_
    refine s_y (v := .int .i64 (((sw : Nat) : Int))) (y_move h1_1) rfl ?_
    refine s_y (v := .int .i64 (((r : Nat) : Int))) (y_move h6_1) rfl ?_
    refine s_e rfl ?_
    refine e_call (f := 55) (args := #[.int .i64 (((sw : Nat) : Int)), .int .i64 (((r : Nat) : Int))]) (X := Option Addr × Nat) (A := []) (M := [osl a1 c1 xs.length 5 120 (xs.flatMap taskV)]) (V := fun x : Option Addr × Nat => .tuple #[slV (frsZ (((sw : Nat) : Int)) (((r : Nat) : Int))) x, .int .i64 ((far (((sw : Nat) : Int)) (((r : Nat) : Int)) : Nat) : Int)]) (A' := fun x => [slR intV 1 3 (frsZ (((sw : Nat) : Int)) (((r : Nat) : Int))) x]) (C := fun _ => True) Try.call55 (ev2 rfl rfl) (.p .h .nil) (fun w hs => rround_c (((sw : Nat) : Int)) (((r : Nat) : Int)) (by omega) (by omega) (by omega) (by omega) w) ?_
    rintro ⟨a_3, c_4⟩ -
    refine s_y (v := .tuple #[.slice a_3 ((frsZ (((sw : Nat) : Int)) (((r : Nat) : Int))).length) c_4, .int .i64 ((((far (((sw : Nat) : Int)) (((r : Nat) : Int))) : Nat) : Int))]) (y_move rfl) rfl ?_
    refine s_y (v := .slice a_3 ((frsZ (((sw : Nat) : Int)) (((r : Nat) : Int))).length) c_4) (y_extract (v := .slice a_3 ((frsZ (((sw : Nat) : Int)) (((r : Nat) : Int))).length) c_4) rfl rfl) rfl ?_
    refine s_y (v := .int .i64 ((((far (((sw : Nat) : Int)) (((r : Nat) : Int))) : Nat) : Int))) (y_extract (v := .int .i64 ((((far (((sw : Nat) : Int)) (((r : Nat) : Int))) : Nat) : Int))) rfl rfl) rfl ?_
    refine s_y (v := .slice a_3 ((frsZ (((sw : Nat) : Int)) (((r : Nat) : Int))).length) c_4) (y_assign rfl) rfl ?_
    refine s_y (v := .int .i64 ((((far (((sw : Nat) : Int)) (((r : Nat) : Int))) : Nat) : Int))) (y_assign rfl) rfl ?_
    refine wpL_nil ?_
    refine thenS_n ?_
    refine wpS_seq ?_
    refine wpS_region ?_
    refine s_y (v := .int .i64 0) (y_assign rfl) rfl ?_
    refine wpL_nil ?_
    refine thenS_n ?_
    refine wpS_block ?_
    have hfl := far_le ((sw : Nat) : Int) ((r : Nat) : Int)
    have hzl := frs_len ((sw : Nat) : Int) ((r : Nat) : Int)
    have hzl2 := frsZ_len ((sw : Nat) : Int) ((r : Nat) : Int)
    refine wpS_loop (fun mez ds σ L => ∃ i : Nat, ∃ xs2 : List Task, ∃ a2 : Option Addr, ∃ c2 : Nat, mez = (frsZ ((sw : Nat) : Int) ((r : Nat) : Int)).length - i ∧ (i ≤ (frsZ ((sw : Nat) : Int) ((r : Nat) : Int)).length) ∧ (xs2.length ≤ r * 8 + i) ∧ (xs2 = sortsT sw k r ++ (rowT sw k r).take i) ∧ ds = [] ∧ σ 0 = .int .i64 k ∧ σ 1 = .int .i64 (((sw : Nat) : Int)) ∧ σ 5 = .slice a2 xs2.length c2 ∧ σ 6 = .int .i64 (((r : Nat) : Int)) ∧ σ 7 = .slice a_3 ((frsZ (((sw : Nat) : Int)) (((r : Nat) : Int))).length) c_4 ∧ σ 8 = .int .i64 ((((far (((sw : Nat) : Int)) (((r : Nat) : Int))) : Nat) : Int)) ∧ σ 9 = .int .i64 (((i : Nat) : Int)) ∧ Ent L [osl a_3 c_4 ((frsZ (((sw : Nat) : Int)) (((r : Nat) : Int))).length) 1 3 ((frsZ (((sw : Nat) : Int)) (((r : Nat) : Int))).flatMap intV), osl a2 c2 xs2.length 5 120 (xs2.flatMap taskV)]) (m0 := (frsZ ((sw : Nat) : Int) ((r : Nat) : Int)).length - 0) ⟨0, xs, a1, c1, rfl, by omega, by omega, (by rw [List.take_zero, List.append_nil]; assumption), rfl, h0_1, h1_1, h5_1, h6_1, rfl, rfl, rfl, .p .h (.p .h .nil)⟩ ?_
    rintro mez ds σ L ⟨i, xs2, a2, c2, hm_5, hf0_5, hf1_5, hf2_5, rfl, h0_5, h1_5, h5_5, h6_5, h7_5, h8_5, h9_5, hE_5⟩
    refine wpS_ent hE_5 ?_; clear hE_5
    refine wpS_seq ?_
    refine wpS_seq ?_
    refine wpS_region ?_
    refine s_y (v := .int .i64 (((i : Nat) : Int))) (y_move h9_5) rfl ?_
    refine s_y (v := .slice a_3 ((frsZ (((sw : Nat) : Int)) (((r : Nat) : Int))).length) c_4) (y_move h7_5) rfl ?_
    refine s_y (v := .int .i64 ((((frsZ (((sw : Nat) : Int)) (((r : Nat) : Int))).length : Nat) : Int))) (y_len (ty' := 0) (at_ := #[]) rfl Try.underlying39) rfl ?_
    refine s_y (v := .bool (decide (i < ((frsZ (((sw : Nat) : Int)) (((r : Nat) : Int))).length)))) (y_lss (a := ((i : Nat) : Int)) (b := (((frsZ (((sw : Nat) : Int)) (((r : Nat) : Int))).length : Nat) : Int)) (c := decide (i < ((frsZ (((sw : Nat) : Int)) (((r : Nat) : Int))).length))) rfl rfl (decide_eq_decide.2 (by omega))) rfl ?_
    refine wpL_nil ?_
    refine thenS_n ?_
    refine wpS_cond (t := decide (i < ((frsZ (((sw : Nat) : Int)) (((r : Nat) : Int))).length))) rfl (fun b6 => ?_) (fun b6 => ?_)
    · -- decide (i < ((frsZ (((sw : Nat) : Int)) (((r : Nat) : Int))).length)) true
      have p6 := of_decide_eq_true b6
      have hzi := frsZ_ge (n := ((sw : Nat) : Int)) (r := ((r : Nat) : Int)) (i := i) (by omega)
      refine wpS_skip ?_
      refine thenS_n ?_
      refine wpS_seq ?_
      refine wpS_block ?_
      refine wpS_anyL [osl a_3 c_4 ((frsZ (((sw : Nat) : Int)) (((r : Nat) : Int))).length) 1 3 ((frsZ (((sw : Nat) : Int)) (((r : Nat) : Int))).flatMap intV)] [] (by kernel_rfl) ?_
      refine anyS_take (i := 0) rfl (by kernel_rfl) (by kernel_rfl) (by kernel_rfl) (by kernel_rfl) (Yq.of (v := .slice a2 xs2.length c2) (y_move h5_5) rfl) (.p .h .nil) ?_
      refine anyS_take (i := 1) rfl (by kernel_rfl) (by kernel_rfl) (by kernel_rfl) (by kernel_rfl) (Yq.of (v := .int .i64 k) (y_move h0_5) rfl) (.p .h .nil) ?_
      refine anyS_take (i := 2) rfl (by kernel_rfl) (by kernel_rfl) (by kernel_rfl) (by kernel_rfl) (Yq.of (v := .int .i64 (((r : Nat) : Int))) (y_move h6_5) rfl) (.p .h .nil) ?_
      refine anyS_take (i := 3) rfl (by kernel_rfl) (by kernel_rfl) (by kernel_rfl) (by kernel_rfl) (Yq.of (v := .int .i64 ((((r + 1) : Nat) : Int))) (y_add (a := ((r : Nat) : Int)) (b := 1) (c := (((r + 1) : Nat) : Int)) rfl rfl (wI (by omega) (by omega) (by omega))) rfl) (.p .h .nil) ?_
      refine anyS_take (i := 4) rfl (by kernel_rfl) (by kernel_rfl) (by kernel_rfl) (by kernel_rfl) (Yq.of (v := .slice a_3 ((frsZ (((sw : Nat) : Int)) (((r : Nat) : Int))).length) c_4) (y_move h7_5) rfl) (.p .h .nil) ?_
      refine anyS_take (i := 5) rfl (by kernel_rfl) (by kernel_rfl) (by kernel_rfl) (by kernel_rfl) (Yq.of (v := .int .i64 (((i : Nat) : Int))) (y_move h9_5) rfl) (.p .h .nil) ?_
      refine anyS_take (i := 6) rfl (by kernel_rfl) (by kernel_rfl) (by kernel_rfl) (by kernel_rfl) (Yq.of (v := .pointer (some ⟨aB a_3, aO a_3 + i * 1, none⟩)) (y_idx (o := i * 1) rfl rfl Try.underlying39 Try.sizeOf3 (oslR .h) (fl_len intV_len _) (by decide) (by omega) (by omega) (by omega)) rfl) (.p .h .nil) ?_
      refine anyS_take (i := 7) rfl (by kernel_rfl) (by kernel_rfl) (by kernel_rfl) (by kernel_rfl) (Yq.of (v := .int .i64 (((frsZ (((sw : Nat) : Int)) (((r : Nat) : Int))).getD i default))) (y_load1 (v := .int .i64 (((frsZ (((sw : Nat) : Int)) (((r : Nat) : Int))).getD i default))) rfl Try.isAgg3 (rd1 (k := i * 1) (oslR .h) (fl_get0 intV_len (frsZ (((sw : Nat) : Int)) (((r : Nat) : Int))) i (by first | omega | (simp only [List.length_set, List.length_take, List.length_drop]; done) | (simp only [List.length_set, List.length_take, List.length_drop]; omega)) rfl))) rfl) (.p .h .nil) ?_
      refine anyS_take (i := 8) rfl (by kernel_rfl) (by kernel_rfl) (by kernel_rfl) (by kernel_rfl) (Yq.of (v := .slice a_3 ((frsZ (((sw : Nat) : Int)) (((r : Nat) : Int))).length) c_4) (y_move h7_5) rfl) (.p .h .nil) ?_
      refine anyS_take (i := 9) rfl (by kernel_rfl) (by kernel_rfl) (by kernel_rfl) (by kernel_rfl) (Yq.of (v := .int .i64 (((i : Nat) : Int))) (y_move h9_5) rfl) (.p .h .nil) ?_
      refine anyS_take (i := 10) rfl (by kernel_rfl) (by kernel_rfl) (by kernel_rfl) (by kernel_rfl) (Yq.of (v := .pointer (some ⟨aB a_3, aO a_3 + i * 1, none⟩)) (y_idx (o := i * 1) rfl rfl Try.underlying39 Try.sizeOf3 (oslR .h) (fl_len intV_len _) (by decide) (by omega) (by omega) (by omega)) rfl) (.p .h .nil) ?_
      refine anyS_take (i := 11) rfl (by kernel_rfl) (by kernel_rfl) (by kernel_rfl) (by kernel_rfl) (Yq.of (v := .int .i64 (((frsZ (((sw : Nat) : Int)) (((r : Nat) : Int))).getD i default))) (y_load1 (v := .int .i64 (((frsZ (((sw : Nat) : Int)) (((r : Nat) : Int))).getD i default))) rfl Try.isAgg3 (rd1 (k := i * 1) (oslR .h) (fl_get0 intV_len (frsZ (((sw : Nat) : Int)) (((r : Nat) : Int))) i (by first | omega | (simp only [List.length_set, List.length_take, List.length_drop]; done) | (simp only [List.length_set, List.length_take, List.length_drop]; omega)) rfl))) rfl) (.p .h .nil) ?_
      refine anyS_take (i := 12) rfl (by kernel_rfl) (by kernel_rfl) (by kernel_rfl) (by kernel_rfl) (Yq.of (v := .int .i64 ((((far (((sw : Nat) : Int)) (((r : Nat) : Int))) : Nat) : Int))) (y_move h8_5) rfl) (.p .h .nil) ?_
      refine anyS_take (i := 13) rfl (by kernel_rfl) (by kernel_rfl) (by kernel_rfl) (by kernel_rfl) (Yq.of (v := .int .i64 (((frsZ (((sw : Nat) : Int)) (((r : Nat) : Int))).getD i default) + (((far (((sw : Nat) : Int)) (((r : Nat) : Int))) : Nat) : Int))) (y_add (a := ((frsZ (((sw : Nat) : Int)) (((r : Nat) : Int))).getD i default)) (b := (((far (((sw : Nat) : Int)) (((r : Nat) : Int))) : Nat) : Int)) (c := ((frsZ (((sw : Nat) : Int)) (((r : Nat) : Int))).getD i default) + (((far (((sw : Nat) : Int)) (((r : Nat) : Int))) : Nat) : Int)) rfl rfl (wI rfl (by omega) (by omega))) rfl) (.p .h .nil) ?_
      refine anyS_take (i := 14) rfl (by kernel_rfl) (by kernel_rfl) (by kernel_rfl) (by kernel_rfl) (Yq.of (v := .int .i64 (((sw : Nat) : Int))) (y_move h1_5) rfl) (.p .h .nil) ?_
      refine anyS_take (i := 15) rfl (by kernel_rfl) (by kernel_rfl) (by kernel_rfl) (by kernel_rfl) (Yq.of (v := .int .i64 (((r : Nat) : Int))) (y_move h6_5) rfl) (.p .h .nil) ?_
      refine anyS_take (i := 16) rfl (by kernel_rfl) (by kernel_rfl) (by kernel_rfl) (by kernel_rfl) (Yq.of (v := .slice a_3 ((frsZ (((sw : Nat) : Int)) (((r : Nat) : Int))).length) c_4) (y_move h7_5) rfl) (.p .h .nil) ?_
      refine anyS_take (i := 17) rfl (by kernel_rfl) (by kernel_rfl) (by kernel_rfl) (by kernel_rfl) (Yq.of (v := .int .i64 (((i : Nat) : Int))) (y_move h9_5) rfl) (.p .h .nil) ?_
      refine anyS_take (i := 18) rfl (by kernel_rfl) (by kernel_rfl) (by kernel_rfl) (by kernel_rfl) (Yq.of (v := .pointer (some ⟨aB a_3, aO a_3 + i * 1, none⟩)) (y_idx (o := i * 1) rfl rfl Try.underlying39 Try.sizeOf3 (oslR .h) (fl_len intV_len _) (by decide) (by omega) (by omega) (by omega)) rfl) (.p .h .nil) ?_
      refine anyS_take (i := 19) rfl (by kernel_rfl) (by kernel_rfl) (by kernel_rfl) (by kernel_rfl) (Yq.of (v := .int .i64 (((frsZ (((sw : Nat) : Int)) (((r : Nat) : Int))).getD i default))) (y_load1 (v := .int .i64 (((frsZ (((sw : Nat) : Int)) (((r : Nat) : Int))).getD i default))) rfl Try.isAgg3 (rd1 (k := i * 1) (oslR .h) (fl_get0 intV_len (frsZ (((sw : Nat) : Int)) (((r : Nat) : Int))) i (by first | omega | (simp only [List.length_set, List.length_take, List.length_drop]; done) | (simp only [List.length_set, List.length_take, List.length_drop]; omega)) rfl))) rfl) (.p .h .nil) ?_
      refine anyS_take (i := 20) rfl (by kernel_rfl) (by kernel_rfl) (by kernel_rfl) (by kernel_rfl) (Yq.of (v := .bool ((up (((sw : Nat) : Int)) (((r : Nat) : Int)) ((frsZ (((sw : Nat) : Int)) (((r : Nat) : Int))).getD i default)))) (y_call (args := #[.int .i64 (((sw : Nat) : Int)), .int .i64 (((r : Nat) : Int)), .int .i64 (((frsZ (((sw : Nat) : Int)) (((r : Nat) : Int))).getD i default))]) (v := .bool ((up (((sw : Nat) : Int)) (((r : Nat) : Int)) ((frsZ (((sw : Nat) : Int)) (((r : Nat) : Int))).getD i default)))) Try.call60 (ev3 rfl rfl rfl) (fun w hs => rup_c (((sw : Nat) : Int)) (((r : Nat) : Int)) ((frsZ (((sw : Nat) : Int)) (((r : Nat) : Int))).getD i default) (by omega) (by omega) (by omega) (by omega) (by omega) (by omega) w)) rfl) (.p .h .nil) ?_
      refine anyS_take (i := 21) rfl (by kernel_rfl) (by kernel_rfl) (by kernel_rfl) (by kernel_rfl) (Yq.of (v := .agg #[.int .i64 k, .int .i64 ((((r + 1) : Nat) : Int)), .int .i64 (((frsZ (((sw : Nat) : Int)) (((r : Nat) : Int))).getD i default)), .int .i64 (((frsZ (((sw : Nat) : Int)) (((r : Nat) : Int))).getD i default) + (((far (((sw : Nat) : Int)) (((r : Nat) : Int))) : Nat) : Int)), .bool ((up (((sw : Nat) : Int)) (((r : Nat) : Int)) ((frsZ (((sw : Nat) : Int)) (((r : Nat) : Int))).getD i default)))]) (y_buildL (m := [(0, .int .i64 k), (1, .int .i64 ((((r + 1) : Nat) : Int))), (2, .int .i64 (((frsZ (((sw : Nat) : Int)) (((r : Nat) : Int))).getD i default))), (3, .int .i64 (((frsZ (((sw : Nat) : Int)) (((r : Nat) : Int))).getD i default) + (((far (((sw : Nat) : Int)) (((r : Nat) : Int))) : Nat) : Int))), (4, .bool ((up (((sw : Nat) : Int)) (((r : Nat) : Int)) ((frsZ (((sw : Nat) : Int)) (((r : Nat) : Int))).getD i default))))]) (vs := #[.int .i64 k, .int .i64 ((((r + 1) : Nat) : Int)), .int .i64 (((frsZ (((sw : Nat) : Int)) (((r : Nat) : Int))).getD i default)), .int .i64 (((frsZ (((sw : Nat) : Int)) (((r : Nat) : Int))).getD i default) + (((far (((sw : Nat) : Int)) (((r : Nat) : Int))) : Nat) : Int)), .bool ((up (((sw : Nat) : Int)) (((r : Nat) : Int)) ((frsZ (((sw : Nat) : Int)) (((r : Nat) : Int))).getD i default)))]) (evc rfl (evc rfl (evc rfl (evc rfl (evc rfl evn))))) (fun w => by kernel_rfl)) rfl) (.p .h .nil) ?_
      refine anyS_all (rs := [22]) (by kernel_rfl) (by simp) ?_
      intro i hi; obtain rfl := List.mem_singleton.1 hi; clear hi
      refine opS_0 rfl rfl ?_
      refine e_bsliceL (e := 120) (m := [(0, .agg #[.int .i64 k, .int .i64 ((((r + 1) : Nat) : Int)), .int .i64 (((frsZ (((sw : Nat) : Int)) (((r : Nat) : Int))).getD i default)), .int .i64 (((frsZ (((sw : Nat) : Int)) (((r : Nat) : Int))).getD i default) + (((far (((sw : Nat) : Int)) (((r : Nat) : Int))) : Nat) : Int)), .bool ((up (((sw : Nat) : Int)) (((r : Nat) : Int)) ((frsZ (((sw : Nat) : Int)) (((r : Nat) : Int))).getD i default)))])]) (l := [.int .i64 k, .int .i64 ((((r + 1) : Nat) : Int)), .int .i64 (((frsZ (((sw : Nat) : Int)) (((r : Nat) : Int))).getD i default)), .int .i64 (((frsZ (((sw : Nat) : Int)) (((r : Nat) : Int))).getD i default) + (((far (((sw : Nat) : Int)) (((r : Nat) : Int))) : Nat) : Int)), .bool ((up (((sw : Nat) : Int)) (((r : Nat) : Int)) ((frsZ (((sw : Nat) : Int)) (((r : Nat) : Int))).getD i default)))]) (evc rfl evn) (fun w => by kernel_rfl) ?_
      intro b_7
      refine ⟨.inr (.p (.t .h) .nil), ?_⟩
      refine anyS_all (rs := [23]) (by kernel_rfl) (by simp) ?_
      intro i hi; obtain rfl := List.mem_singleton.1 hi; clear hi
      refine opS_0 rfl rfl ?_
      refine e_appendL (enc := taskV) (xs := (xs2 : List Task)) (ns := ([(Task.mk k (((r + 1) : Nat) : Int) ((frsZ (((sw : Nat) : Int)) (((r : Nat) : Int))).getD i default) (((frsZ (((sw : Nat) : Int)) (((r : Nat) : Int))).getD i default) + (((far (((sw : Nat) : Int)) (((r : Nat) : Int))) : Nat) : Int)) (up (((sw : Nat) : Int)) (((r : Nat) : Int)) ((frsZ (((sw : Nat) : Int)) (((r : Nat) : Int))).getD i default)))] : List Task)) (zs := (xs2 ++ [(Task.mk k (((r + 1) : Nat) : Int) ((frsZ (((sw : Nat) : Int)) (((r : Nat) : Int))).getD i default) (((frsZ (((sw : Nat) : Int)) (((r : Nat) : Int))).getD i default) + (((far (((sw : Nat) : Int)) (((r : Nat) : Int))) : Nat) : Int)) (up (((sw : Nat) : Int)) (((r : Nat) : Int)) ((frsZ (((sw : Nat) : Int)) (((r : Nat) : Int))).getD i default)))])) (bytes := 40) taskV_len taskV_one Try.underlying115 (i := Try.t120) rfl rfl rfl rfl rfl (by decide) rfl rfl (by first | rfl | omega) (by first | rfl | omega) (.t (.t .h)) (fun w hs => celR .h w hs) (by first | rfl | simp) (by (try simp only [List.length_append, List.length_cons, List.length_nil] at *); omega) (by (try simp only [List.length_append, List.length_cons, List.length_nil] at *); omega) ?_
      intro a_8 c_9
      refine ⟨.inr (.p (.t (.t .h)) .nil), ?_⟩
      refine anyS_take (i := 24) rfl (by kernel_rfl) (by kernel_rfl) (by kernel_rfl) (by kernel_rfl) (Yq.of (v := .slice a_8 ((xs2 ++ [(Task.mk k (((r + 1) : Nat) : Int) ((frsZ (((sw : Nat) : Int)) (((r : Nat) : Int))).getD i default) (((frsZ (((sw : Nat) : Int)) (((r : Nat) : Int))).getD i default) + (((far (((sw : Nat) : Int)) (((r : Nat) : Int))) : Nat) : Int)) (up (((sw : Nat) : Int)) (((r : Nat) : Int)) ((frsZ (((sw : Nat) : Int)) (((r : Nat) : Int))).getD i default)))]).length) c_9) (y_assign rfl) rfl) (.p (.t (.t .h)) .nil) ?_
      refine anyS_done (by kernel_rfl) ?_
      refine blockS_n ?_
      refine thenS_n ?_
      refine wpS_region ?_
      refine s_y (v := .int .i64 (((i : Nat) : Int))) (y_move h9_5) rfl ?_
      refine s_y (v := .int .i64 ((((i + 1) : Nat) : Int))) (y_add (a := ((i : Nat) : Int)) (b := 1) (c := (((i + 1) : Nat) : Int)) rfl rfl (wI (by omega) (by omega) (by omega))) rfl ?_
      refine s_y (v := .int .i64 ((((i + 1) : Nat) : Int))) (y_assign rfl) rfl ?_
      refine wpL_nil ?_
      refine thenS_n ?_
      exact ⟨_, by omega, ⟨(i + 1), (xs2 ++ [(Task.mk k (((r + 1) : Nat) : Int) ((frsZ (((sw : Nat) : Int)) (((r : Nat) : Int))).getD i default) (((frsZ (((sw : Nat) : Int)) (((r : Nat) : Int))).getD i default) + (((far (((sw : Nat) : Int)) (((r : Nat) : Int))) : Nat) : Int)) (up (((sw : Nat) : Int)) (((r : Nat) : Int)) ((frsZ (((sw : Nat) : Int)) (((r : Nat) : Int))).getD i default)))]), a_8, c_9, rfl, by omega, (by rw [List.length_append]; show _ + 1 ≤ _; omega), (by rw [(by assumption : xs2 = _), List.append_assoc, rowT_next (by omega)]), rfl, h0_5, h1_5, rfl, h6_5, h7_5, h8_5, rfl, .p (.t (.t .h)) (.p .h .nil)⟩⟩
    · -- decide (i < ((frsZ (((sw : Nat) : Int)) (((r : Nat) : Int))).length)) false
      have p6 := of_decide_eq_false b6
      refine wpS_exit ?_
      refine thenS_x ?_
      refine thenS_x ?_
      refine blockS_h ?_
      refine blockS_n ?_
      refine thenS_n ?_
      refine wpS_region ?_
      refine s_y (v := .int .i64 (((r : Nat) : Int))) (y_move h6_5) rfl ?_
      refine s_y (v := .int .i64 ((((r + 1) : Nat) : Int))) (y_add (a := ((r : Nat) : Int)) (b := 1) (c := (((r + 1) : Nat) : Int)) rfl rfl (wI (by omega) (by omega) (by omega))) rfl ?_
      refine s_y (v := .int .i64 ((((r + 1) : Nat) : Int))) (y_assign rfl) rfl ?_
      refine wpL_nil ?_
      refine thenS_n ?_
      exact ⟨_, by omega, ⟨(r + 1), xs2, a2, c2, rfl, by omega, by omega, (by rw [sortsT_next, (by assumption : xs2 = _), List.take_of_length_le (by rw [rowT_len, ← frsZ_len]; omega)]), rfl, h0_5, h1_5, h5_5, rfl, .p (.t .h) .nil⟩⟩
  · -- decide (r < (rnd (((sw : Nat) : Int)))) false
    have p2 := of_decide_eq_false b2
    refine wpS_exit ?_
    refine thenS_x ?_
    refine thenS_x ?_
    refine blockS_h ?_
    refine thenS_n ?_
    refine wpS_seq ?_
    refine wpS_region ?_
    refine s_y (v := .slice a1 xs.length c1) (y_move h5_1) rfl ?_
    refine s_y (v := .slice a1 xs.length c1) (y_assign rfl) rfl ?_
    refine wpL_nil ?_
    refine thenS_n ?_
    refine wpS_ret ?_
    refine fin1 (M := [osl a1 c1 xs.length 5 120 (xs.flatMap taskV)]) (v := .slice a1 xs.length c1) (.inr rfl) (.p .h .nil) Try.results183 rfl ?_
    exact fun w' hs => ⟨(a1, c1), by rw [show (sortsT sw k (rnd ((sw : Nat) : Int))) = xs from (by rw [(by assumption : xs = _), show r = rnd ((sw : Nat) : Int) by omega])], by rw [show (sortsT sw k (rnd ((sw : Nat) : Int))) = xs from (by rw [(by assumption : xs = _), show r = rnd ((sw : Nat) : Int) by omega])]; exact hs, trivial⟩

theorem rtasks_c (p : Par) (h8 : sl p ≤ 8) (w : World) : MakesS Try.prog 97 #[.agg #[.int .i64 (p.n0), .int .i64 (p.n1), .int .i64 (p.n2), .int .i64 (p.n3)]] w [] taskV 5 120 (refT p) := by
  refine calls_S (n := 56) (σ0 := (upd fr0 0 (.agg #[.int .i64 (p.n0), .int .i64 (p.n1), .int .i64 (p.n2), .int .i64 (p.n3)]))) (D := []) (A := []) Try.func97 rfl Try.ntmps97 rfl (a1_fr _) (SH.start w) ?_
  have hs2 := bk_bd p
  have hs3 := nbk_bd p
  have hs5 := nb_sl p
  have hrn := rnd_le ((sl p : Nat) : Int)
  have hst := fun k => sortsT_le (sl p) k (rnd ((sl p : Nat) : Int)) h8
  have hst3 := hst 3
  have hst5 := hst 5
  refine wpS_seq ?_
  refine wpS_region ?_
  refine s_e rfl ?_
  refine e_box (v := .agg #[.int .i64 (p.n0), .int .i64 (p.n1), .int .i64 (p.n2), .int .i64 (p.n3)]) (l := [.int .i64 (p.n0), .int .i64 (p.n1), .int .i64 (p.n2), .int .i64 (p.n3)]) rfl rfl ?_
  intro b_1
  refine s_y (v := .slice none 0 0) (y_assign rfl) rfl ?_
  refine wpL_nil ?_
  refine thenS_n ?_
  refine wpS_seq ?_
  refine wpS_region ?_
  refine s_y (v := .agg #[.int .i64 (p.n0), .int .i64 (p.n1), .int .i64 (p.n2), .int .i64 (p.n3)]) (y_loadN (vs := [.int .i64 (p.n0), .int .i64 (p.n1), .int .i64 (p.n2), .int .i64 (p.n3)]) rfl Try.isAgg53 Try.sizeOf53 (ownN .h rfl)) rfl ?_
  refine s_y (v := .tuple #[.int .i64 (bk p), .int .i64 ((((sl p) : Nat) : Int))]) (y_call (args := #[.agg #[.int .i64 (p.n0), .int .i64 (p.n1), .int .i64 (p.n2), .int .i64 (p.n3)]]) (v := .tuple #[.int .i64 (bk p), .int .i64 ((((sl p) : Nat) : Int))]) Try.call63 (ev1 rfl) (fun w hs => rblocks_c p w)) rfl ?_
  refine s_y (v := .tuple #[.int .i64 (bk p), .int .i64 ((((sl p) : Nat) : Int))]) (y_move rfl) rfl ?_
  refine s_y (v := .int .i64 (bk p)) (y_extract (v := .int .i64 (bk p)) rfl rfl) rfl ?_
  refine s_y (v := .int .i64 ((((sl p) : Nat) : Int))) (y_extract (v := .int .i64 ((((sl p) : Nat) : Int))) rfl rfl) rfl ?_
  refine s_y (v := .int .i64 (bk p)) (y_assign rfl) rfl ?_
  refine s_y (v := .int .i64 ((((sl p) : Nat) : Int))) (y_assign rfl) rfl ?_
  refine wpL_nil ?_
  refine thenS_n ?_
  refine wpS_seq ?_
  refine wpS_region ?_
  refine s_y (v := .slice none 0 0) (y_assign rfl) rfl ?_
  refine wpL_nil ?_
  refine thenS_n ?_
  refine wpS_seq ?_
  refine wpS_seq ?_
  refine wpS_region ?_
  refine s_y (v := .int .i64 0) (y_assign rfl) rfl ?_
  refine wpL_nil ?_
  refine thenS_n ?_
  refine wpS_block ?_
  refine wpS_nil0 5 120 ?_
  refine wpS_loop (fun mez ds σ L => ∃ i : Nat, ∃ xs : List Task, ∃ a1 : Option Addr, ∃ c1 : Nat, mez = (bk p).toNat - i ∧ (0 ≤ i) ∧ (i ≤ (bk p).toNat) ∧ (xs.length ≤ i) ∧ (xs = (List.range i).map (plT 1 0)) ∧ ds = [] ∧ σ 1 = .pointer (some ⟨b_1, 0, none⟩) ∧ σ 3 = .int .i64 (bk p) ∧ σ 4 = .int .i64 ((((sl p) : Nat) : Int)) ∧ σ 5 = .slice a1 xs.length c1 ∧ σ 6 = .int .i64 (((i : Nat) : Int)) ∧ Ent L [osl a1 c1 xs.length 5 120 (xs.flatMap taskV), cel b_1 53 [.int .i64 (p.n0), .int .i64 (p.n1), .int .i64 (p.n2), .int .i64 (p.n3)]]) (m0 := (bk p).toNat - 0) ⟨0, [], none, 0, rfl, by omega, by omega, by simp, rfl, rfl, rfl, rfl, rfl, rfl, rfl, .p .h (.p .h .nil)⟩ ?_
  rintro mez ds σ L ⟨i, xs, a1, c1, hm_2, hf0_2, hf1_2, hf2_2, hf3_2, rfl, h1_2, h3_2, h4_2, h5_2, h6_2, hE_2⟩
  refine wpS_ent hE_2 ?_; clear hE_2
  refine wpS_seq ?_
  refine wpS_seq ?_
  refine wpS_region ?_
  refine s_y (v := .int .i64 (((i : Nat) : Int))) (y_move h6_2) rfl ?_
  refine s_y (v := .int .i64 (bk p)) (y_move h3_2) rfl ?_
  refine s_y (v := .bool (decide ((((i : Nat) : Int) : Int) < (bk p)))) (y_lss (a := ((i : Nat) : Int)) (b := bk p) rfl rfl rfl) rfl ?_
  refine wpL_nil ?_
  refine thenS_n ?_
  refine wpS_cond (t := decide ((((i : Nat) : Int) : Int) < (bk p))) rfl (fun b3 => ?_) (fun b3 => ?_)
  · -- decide ((((i : Nat) : Int) : Int) < (bk p)) true
    have p3 := of_decide_eq_true b3
    refine wpS_skip ?_
    refine thenS_n ?_
    refine wpS_seq ?_
    refine wpS_block ?_
    refine wpS_region ?_
    refine s_y (v := .slice a1 xs.length c1) (y_move h5_2) rfl ?_
    refine s_y (v := .int .i64 (((i : Nat) : Int))) (y_move h6_2) rfl ?_
    refine s_y (v := .agg #[.int .i64 1, .int .i64 0, .int .i64 (((i : Nat) : Int)), .int .i64 0, .bool false]) (y_buildL (m := [(0, .int .i64 1), (2, .int .i64 (((i : Nat) : Int)))]) (vs := #[.int .i64 1, .int .i64 0, .int .i64 (((i : Nat) : Int)), .int .i64 0, .bool false]) (evc rfl (evc rfl evn)) (fun w => by kernel_rfl)) rfl ?_
    refine s_e rfl ?_
    refine e_bsliceL (e := 120) (m := [(0, .agg #[.int .i64 1, .int .i64 0, .int .i64 (((i : Nat) : Int)), .int .i64 0, .bool false])]) (l := [.int .i64 1, .int .i64 0, .int .i64 (((i : Nat) : Int)), .int .i64 0, .bool false]) (evc rfl evn) (fun w => by kernel_rfl) ?_
    intro b_4
    refine s_e rfl ?_
    refine e_appendL (enc := taskV) (xs := (xs : List Task)) (ns := ([(Task.mk 1 0 ((i : Nat) : Int) 0 false)] : List Task)) (zs := (xs ++ [(Task.mk 1 0 ((i : Nat) : Int) 0 false)])) (bytes := 40) taskV_len taskV_one Try.underlying115 (i := Try.t120) rfl rfl rfl rfl rfl (by decide) rfl rfl (by first | rfl | omega) (by first | rfl | omega) (.t .h) (fun w hs => celR .h w hs) (by first | rfl | simp) (by (try simp only [List.length_append, List.length_cons, List.length_nil] at *); omega) (by (try simp only [List.length_append, List.length_cons, List.length_nil] at *); omega) ?_
    intro a_5 c_6
    refine s_y (v := .slice a_5 ((xs ++ [(Task.mk 1 0 ((i : Nat) : Int) 0 false)]).length) c_6) (y_assign rfl) rfl ?_
    refine wpL_nil ?_
    refine blockS_n ?_
    refine thenS_n ?_
    refine wpS_region ?_
    refine s_y (v := .int .i64 (((i : Nat) : Int))) (y_move h6_2) rfl ?_
    refine s_y (v := .int .i64 ((((i + 1) : Nat) : Int))) (y_add (a := ((i : Nat) : Int)) (b := 1) (c := (((i + 1) : Nat) : Int)) rfl rfl (wI (by omega) (by omega) (by omega))) rfl ?_
    refine s_y (v := .int .i64 ((((i + 1) : Nat) : Int))) (y_assign rfl) rfl ?_
    refine wpL_nil ?_
    refine thenS_n ?_
    exact ⟨_, by omega, ⟨(i + 1), (xs ++ [(Task.mk 1 0 ((i : Nat) : Int) 0 false)]), a_5, c_6, rfl, by omega, by omega, (by rw [List.length_append, List.length_singleton]; omega), (by rw [plT_next, (by assumption : xs = _), Int.zero_add]), rfl, h1_2, h3_2, h4_2, rfl, rfl, .p .h (.p (.t .h) .nil)⟩⟩
  · -- decide ((((i : Nat) : Int) : Int) < (bk p)) false
    have p3 := of_decide_eq_false b3
    refine wpS_exit ?_
    refine thenS_x ?_
    refine thenS_x ?_
    refine blockS_h ?_
    refine thenS_n ?_
    refine wpS_seq ?_
    refine wpS_seq ?_
    refine wpS_region ?_
    refine s_y (v := .int .i64 (bk p)) (y_move h3_2) rfl ?_
    refine s_y (v := .pointer (some ⟨b_1, 1, none⟩)) (y_fieldAddr (o' := 1) h1_2 Try.underlying53 rfl Try.sizeOf3 (by decide) rfl) rfl ?_
    refine s_y (v := .int .i64 (p.n1)) (y_load1 rfl Try.isAgg3 (own1 (.t .h) rfl)) rfl ?_
    refine s_y (v := .int .i64 (p.n1 * bk p)) (y_mul (a := bk p) (b := p.n1) (c := p.n1 * bk p) rfl rfl (by rw [Int.mul_comm]; exact wI rfl (by omega) (by omega))) rfl ?_
    refine s_y (v := .int .i64 (p.n1 * bk p)) (y_assign rfl) rfl ?_
    refine wpL_nil ?_
    refine thenS_n ?_
    refine wpS_block ?_
    refine wpS_loop (fun mez ds σ L => ∃ j : Int, ∃ xs2 : List Task, ∃ a2 : Option Addr, ∃ c2 : Nat, mez = (((sl p : Nat) : Int) - j).toNat ∧ (p.n1 * bk p ≤ j) ∧ (j ≤ ((sl p : Nat) : Int)) ∧ ((xs2.length : Int) ≤ 64 + j) ∧ (xs2 = (List.range (bk p).toNat).map (plT 1 0) ++ (List.range (j - p.n1 * bk p).toNat).map (plT 2 (p.n1 * bk p))) ∧ ds = [] ∧ σ 4 = .int .i64 ((((sl p) : Nat) : Int)) ∧ σ 5 = .slice a2 xs2.length c2 ∧ σ 7 = .int .i64 j ∧ Ent L [osl a2 c2 xs2.length 5 120 (xs2.flatMap taskV), cel b_1 53 [.int .i64 (p.n0), .int .i64 (p.n1), .int .i64 (p.n2), .int .i64 (p.n3)]]) (m0 := (((sl p : Nat) : Int) - p.n1 * bk p).toNat) ⟨(p.n1 * bk p), xs, a1, c1, rfl, by omega, by omega, by omega, (by rw [Int.sub_self, (by assumption : xs = _), show i = (bk p).toNat by omega]; simp), rfl, h4_2, h5_2, rfl, .p .h (.p .h .nil)⟩ ?_
    rintro mez ds σ L ⟨j, xs2, a2, c2, hm_7, hf0_7, hf1_7, hf2_7, hf3_7, rfl, h4_7, h5_7, h7_7, hE_7⟩
    refine wpS_ent hE_7 ?_; clear hE_7
    refine wpS_seq ?_
    refine wpS_seq ?_
    refine wpS_region ?_
    refine s_y (v := .int .i64 j) (y_move h7_7) rfl ?_
    refine s_y (v := .int .i64 ((((sl p) : Nat) : Int))) (y_move h4_7) rfl ?_
    refine s_y (v := .bool (decide ((j : Int) < (((sl p) : Nat) : Int)))) (y_lss (a := j) (b := (((sl p) : Nat) : Int)) rfl rfl rfl) rfl ?_
    refine wpL_nil ?_
    refine thenS_n ?_
    refine wpS_cond (t := decide ((j : Int) < (((sl p) : Nat) : Int))) rfl (fun b8 => ?_) (fun b8 => ?_)
    · -- decide ((j : Int) < (((sl p) : Nat) : Int)) true
      have p8 := of_decide_eq_true b8
      refine wpS_skip ?_
      refine thenS_n ?_
      refine wpS_seq ?_
      refine wpS_block ?_
      refine wpS_region ?_
      refine s_y (v := .slice a2 xs2.length c2) (y_move h5_7) rfl ?_
      refine s_y (v := .int .i64 j) (y_move h7_7) rfl ?_
      refine s_y (v := .agg #[.int .i64 2, .int .i64 0, .int .i64 j, .int .i64 0, .bool false]) (y_buildL (m := [(0, .int .i64 2), (2, .int .i64 j)]) (vs := #[.int .i64 2, .int .i64 0, .int .i64 j, .int .i64 0, .bool false]) (evc rfl (evc rfl evn)) (fun w => by kernel_rfl)) rfl ?_
      refine s_e rfl ?_
      refine e_bsliceL (e := 120) (m := [(0, .agg #[.int .i64 2, .int .i64 0, .int .i64 j, .int .i64 0, .bool false])]) (l := [.int .i64 2, .int .i64 0, .int .i64 j, .int .i64 0, .bool false]) (evc rfl evn) (fun w => by kernel_rfl) ?_
      intro b_9
      refine s_e rfl ?_
      refine e_appendL (enc := taskV) (xs := (xs2 : List Task)) (ns := ([(Task.mk 2 0 j 0 false)] : List Task)) (zs := (xs2 ++ [(Task.mk 2 0 j 0 false)])) (bytes := 40) taskV_len taskV_one Try.underlying115 (i := Try.t120) rfl rfl rfl rfl rfl (by decide) rfl rfl (by first | rfl | omega) (by first | rfl | omega) (.t .h) (fun w hs => celR .h w hs) (by first | rfl | simp) (by (try simp only [List.length_append, List.length_cons, List.length_nil] at *); omega) (by (try simp only [List.length_append, List.length_cons, List.length_nil] at *); omega) ?_
      intro a_10 c_11
      refine s_y (v := .slice a_10 ((xs2 ++ [(Task.mk 2 0 j 0 false)]).length) c_11) (y_assign rfl) rfl ?_
      refine wpL_nil ?_
      refine blockS_n ?_
      refine thenS_n ?_
      refine wpS_region ?_
      refine s_y (v := .int .i64 j) (y_move h7_7) rfl ?_
      refine s_y (v := .int .i64 (j + 1)) (y_add (a := j) (b := 1) (c := j + 1) rfl rfl (wI rfl (by omega) (by omega))) rfl ?_
      refine s_y (v := .int .i64 (j + 1)) (y_assign rfl) rfl ?_
      refine wpL_nil ?_
      refine thenS_n ?_
      exact ⟨_, by omega, ⟨(j + 1), (xs2 ++ [(Task.mk 2 0 j 0 false)]), a_10, c_11, rfl, by omega, by omega, (by rw [List.length_append, List.length_singleton]; omega), (by rw [show (j + 1 - p.n1 * bk p).toNat = (j - p.n1 * bk p).toNat + 1 by omega, plT_next, (by assumption : xs2 = _), show p.n1 * bk p + (((j - p.n1 * bk p).toNat : Nat) : Int) = j by omega, List.append_assoc]), rfl, h4_7, rfl, rfl, .p .h (.p (.t .h) .nil)⟩⟩
    · -- decide ((j : Int) < (((sl p) : Nat) : Int)) false
      have p8 := of_decide_eq_false b8
      refine wpS_exit ?_
      refine thenS_x ?_
      refine thenS_x ?_
      refine blockS_h ?_
      refine thenS_n ?_
      refine wpS_seq ?_
      refine wpS_region ?_
      refine s_y (v := .slice a2 xs2.length c2) (y_move h5_7) rfl ?_
      refine s_y (v := .int .i64 ((((sl p) : Nat) : Int))) (y_move h4_7) rfl ?_
      refine s_e rfl ?_
      refine e_call (f := 183) (args := #[.int .i64 3, .int .i64 ((((sl p) : Nat) : Int))]) (X := Option Addr × Nat) (A := []) (M := [osl a2 c2 xs2.length 5 120 (xs2.flatMap taskV), cel b_1 53 [.int .i64 (p.n0), .int .i64 (p.n1), .int .i64 (p.n2), .int .i64 (p.n3)]]) (V := slV (sortsT (sl p) 3 (rnd (((sl p) : Nat) : Int)))) (A' := fun x => [slR taskV 5 120 (sortsT (sl p) 3 (rnd (((sl p) : Nat) : Int))) x]) (C := fun _ => True) Try.call183 (ev2 rfl rfl) (.p .h (.p .h .nil)) (fun w hs => rsorts_c 3 (sl p) (by omega) w) ?_
      rintro ⟨a_12, c_13⟩ -
      refine s_e rfl ?_
      refine e_appendL (enc := taskV) (xs := (xs2 : List Task)) (ns := ((sortsT (sl p) 3 (rnd (((sl p) : Nat) : Int))) : List Task)) (zs := (xs2 ++ (sortsT (sl p) 3 (rnd (((sl p) : Nat) : Int))))) (bytes := 40) taskV_len taskV_one Try.underlying115 (i := Try.t120) rfl rfl rfl rfl rfl (by decide) rfl rfl (by first | rfl | omega) (by first | rfl | omega) (.t .h) (oslR .h) (by first | rfl | simp) (by (try simp only [List.length_append, List.length_cons, List.length_nil] at *); omega) (by (try simp only [List.length_append, List.length_cons, List.length_nil] at *); omega) ?_
      intro a_15 c_16
      refine s_y (v := .slice a_15 ((xs2 ++ (sortsT (sl p) 3 (rnd (((sl p) : Nat) : Int)))).length) c_16) (y_assign rfl) rfl ?_
      refine wpL_nil ?_
      refine thenS_n ?_
      refine wpS_seq ?_
      refine wpS_seq ?_
      refine wpS_region ?_
      refine s_y (v := .int .i64 0) (y_assign rfl) rfl ?_
      refine wpL_nil ?_
      refine thenS_n ?_
      refine wpS_block ?_
      refine wpS_loop (fun mez ds σ L => ∃ k : Nat, ∃ xs3 : List Task, ∃ a3 : Option Addr, ∃ c3 : Nat, mez = sl p - k ∧ (0 ≤ k) ∧ (k ≤ sl p) ∧ (xs3.length ≤ 1300 + k) ∧ (xs3 = (List.range (bk p).toNat).map (plT 1 0) ++ (List.range (sl p - (p.n1 * bk p).toNat)).map (plT 2 (p.n1 * bk p)) ++ sortsT (sl p) 3 (rnd ((sl p : Nat) : Int)) ++ (List.range k).map (plT 4 0)) ∧ ds = [] ∧ σ 4 = .int .i64 ((((sl p) : Nat) : Int)) ∧ σ 5 = .slice a3 xs3.length c3 ∧ σ 8 = .int .i64 (((k : Nat) : Int)) ∧ Ent L [osl a3 c3 xs3.length 5 120 (xs3.flatMap taskV), osl a_12 c_13 ((sortsT (sl p) 3 (rnd (((sl p) : Nat) : Int))).length) 5 120 ((sortsT (sl p) 3 (rnd (((sl p) : Nat) : Int))).flatMap taskV), cel b_1 53 [.int .i64 (p.n0), .int .i64 (p.n1), .int .i64 (p.n2), .int .i64 (p.n3)]]) (m0 := sl p - 0) ⟨0, (xs2 ++ (sortsT (sl p) 3 (rnd (((sl p) : Nat) : Int)))), a_15, c_16, rfl, by omega, by omega, (by rw [List.length_append]; omega), (by rw [(by assumption : xs2 = _), show j - p.n1 * bk p = ((sl p - (p.n1 * bk p).toNat : Nat) : Int) by omega, Int.toNat_natCast]; simp), rfl, h4_7, rfl, rfl, .p .h (.p .h (.p .h .nil))⟩ ?_
      rintro mez ds σ L ⟨k, xs3, a3, c3, hm_17, hf0_17, hf1_17, hf2_17, hf3_17, rfl, h4_17, h5_17, h8_17, hE_17⟩
      refine wpS_ent hE_17 ?_; clear hE_17
      refine wpS_seq ?_
      refine wpS_seq ?_
      refine wpS_region ?_
      refine s_y (v := .int .i64 (((k : Nat) : Int))) (y_move h8_17) rfl ?_
      refine s_y (v := .int .i64 ((((sl p) : Nat) : Int))) (y_move h4_17) rfl ?_
      refine s_y (v := .bool (decide (k < (sl p)))) (y_lss (a := ((k : Nat) : Int)) (b := (((sl p) : Nat) : Int)) (c := decide (k < (sl p))) rfl rfl (decide_eq_decide.2 (by omega))) rfl ?_
      refine wpL_nil ?_
      refine thenS_n ?_
      refine wpS_cond (t := decide (k < (sl p))) rfl (fun b18 => ?_) (fun b18 => ?_)
      · -- decide (k < (sl p)) true
        have p18 := of_decide_eq_true b18
        refine wpS_skip ?_
        refine thenS_n ?_
        refine wpS_seq ?_
        refine wpS_block ?_
        refine wpS_region ?_
        refine s_y (v := .slice a3 xs3.length c3) (y_move h5_17) rfl ?_
        refine s_y (v := .int .i64 (((k : Nat) : Int))) (y_move h8_17) rfl ?_
        refine s_y (v := .agg #[.int .i64 4, .int .i64 0, .int .i64 (((k : Nat) : Int)), .int .i64 0, .bool false]) (y_buildL (m := [(0, .int .i64 4), (2, .int .i64 (((k : Nat) : Int)))]) (vs := #[.int .i64 4, .int .i64 0, .int .i64 (((k : Nat) : Int)), .int .i64 0, .bool false]) (evc rfl (evc rfl evn)) (fun w => by kernel_rfl)) rfl ?_
        refine s_e rfl ?_
        refine e_bsliceL (e := 120) (m := [(0, .agg #[.int .i64 4, .int .i64 0, .int .i64 (((k : Nat) : Int)), .int .i64 0, .bool false])]) (l := [.int .i64 4, .int .i64 0, .int .i64 (((k : Nat) : Int)), .int .i64 0, .bool false]) (evc rfl evn) (fun w => by kernel_rfl) ?_
        intro b_19
        refine s_e rfl ?_
        refine e_appendL (enc := taskV) (xs := (xs3 : List Task)) (ns := ([(Task.mk 4 0 ((k : Nat) : Int) 0 false)] : List Task)) (zs := (xs3 ++ [(Task.mk 4 0 ((k : Nat) : Int) 0 false)])) (bytes := 40) taskV_len taskV_one Try.underlying115 (i := Try.t120) rfl rfl rfl rfl rfl (by decide) rfl rfl (by first | rfl | omega) (by first | rfl | omega) (.t .h) (fun w hs => celR .h w hs) (by first | rfl | simp) (by (try simp only [List.length_append, List.length_cons, List.length_nil] at *); omega) (by (try simp only [List.length_append, List.length_cons, List.length_nil] at *); omega) ?_
        intro a_20 c_21
        refine s_y (v := .slice a_20 ((xs3 ++ [(Task.mk 4 0 ((k : Nat) : Int) 0 false)]).length) c_21) (y_assign rfl) rfl ?_
        refine wpL_nil ?_
        refine blockS_n ?_
        refine thenS_n ?_
        refine wpS_region ?_
        refine s_y (v := .int .i64 (((k : Nat) : Int))) (y_move h8_17) rfl ?_
        refine s_y (v := .int .i64 ((((k + 1) : Nat) : Int))) (y_add (a := ((k : Nat) : Int)) (b := 1) (c := (((k + 1) : Nat) : Int)) rfl rfl (wI (by omega) (by omega) (by omega))) rfl ?_
        refine s_y (v := .int .i64 ((((k + 1) : Nat) : Int))) (y_assign rfl) rfl ?_
        refine wpL_nil ?_
        refine thenS_n ?_
        exact ⟨_, by omega, ⟨(k + 1), (xs3 ++ [(Task.mk 4 0 ((k : Nat) : Int) 0 false)]), a_20, c_21, rfl, by omega, by omega, (by rw [List.length_append, List.length_singleton]; omega), (by rw [plT_next, (by assumption : xs3 = _), Int.zero_add, List.append_assoc]), rfl, h4_17, rfl, rfl, .p .h (.p (.t .h) (.p (.t .h) .nil))⟩⟩
      · -- decide (k < (sl p)) false
        have p18 := of_decide_eq_false b18
        refine wpS_exit ?_
        refine thenS_x ?_
        refine thenS_x ?_
        refine blockS_h ?_
        refine thenS_n ?_
        refine wpS_seq ?_
        refine wpS_region ?_
        refine s_y (v := .slice a3 xs3.length c3) (y_move h5_17) rfl ?_
        refine s_y (v := .int .i64 ((((sl p) : Nat) : Int))) (y_move h4_17) rfl ?_
        refine s_e rfl ?_
        refine e_call (f := 183) (args := #[.int .i64 5, .int .i64 ((((sl p) : Nat) : Int))]) (X := Option Addr × Nat) (A := []) (M := [osl a3 c3 xs3.length 5 120 (xs3.flatMap taskV), osl a_12 c_13 ((sortsT (sl p) 3 (rnd (((sl p) : Nat) : Int))).length) 5 120 ((sortsT (sl p) 3 (rnd (((sl p) : Nat) : Int))).flatMap taskV), cel b_1 53 [.int .i64 (p.n0), .int .i64 (p.n1), .int .i64 (p.n2), .int .i64 (p.n3)]]) (V := slV (sortsT (sl p) 5 (rnd (((sl p) : Nat) : Int)))) (A' := fun x => [slR taskV 5 120 (sortsT (sl p) 5 (rnd (((sl p) : Nat) : Int))) x]) (C := fun _ => True) Try.call183 (ev2 rfl rfl) (.p .h (.p .h (.p .h .nil))) (fun w hs => rsorts_c 5 (sl p) (by omega) w) ?_
        rintro ⟨a_22, c_23⟩ -
        refine s_e rfl ?_
        refine e_appendL (enc := taskV) (xs := (xs3 : List Task)) (ns := ((sortsT (sl p) 5 (rnd (((sl p) : Nat) : Int))) : List Task)) (zs := (xs3 ++ (sortsT (sl p) 5 (rnd (((sl p) : Nat) : Int))))) (bytes := 40) taskV_len taskV_one Try.underlying115 (i := Try.t120) rfl rfl rfl rfl rfl (by decide) rfl rfl (by first | rfl | omega) (by first | rfl | omega) (.t .h) (oslR .h) (by first | rfl | simp) (by (try simp only [List.length_append, List.length_cons, List.length_nil] at *); omega) (by (try simp only [List.length_append, List.length_cons, List.length_nil] at *); omega) ?_
        intro a_25 c_26
        refine s_y (v := .slice a_25 ((xs3 ++ (sortsT (sl p) 5 (rnd (((sl p) : Nat) : Int)))).length) c_26) (y_assign rfl) rfl ?_
        refine wpL_nil ?_
        refine thenS_n ?_
        refine wpS_ret ?_
        refine fin1 (M := [osl a_25 c_26 ((xs3 ++ (sortsT (sl p) 5 (rnd (((sl p) : Nat) : Int)))).length) 5 120 ((xs3 ++ (sortsT (sl p) 5 (rnd (((sl p) : Nat) : Int)))).flatMap taskV)]) (v := .slice a_25 ((xs3 ++ (sortsT (sl p) 5 (rnd (((sl p) : Nat) : Int)))).length) c_26) (.inr rfl) (.p .h .nil) Try.results97 rfl ?_
        exact fun w' hs => ⟨(a_25, c_26), by rw [show (refT p) = (xs3 ++ (sortsT (sl p) 5 (rnd (((sl p) : Nat) : Int)))) from (by unfold refT; rw [(by assumption : xs3 = _), show k = sl p by omega])], by rw [show (refT p) = (xs3 ++ (sortsT (sl p) 5 (rnd (((sl p) : Nat) : Int)))) from (by unfold refT; rw [(by assumption : xs3 = _), show k = sl p by omega])]; exact hs, trivial⟩

end Go.Proofs.Ytldkjjnjdjfipaa
