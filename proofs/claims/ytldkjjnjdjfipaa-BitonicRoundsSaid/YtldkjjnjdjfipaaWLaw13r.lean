/- BitonicRounds, walked. -/
import Derived.Test.YtldkjjnjdjfipaaWRndS
namespace Go.Proofs.Ytldkjjnjdjfipaa
open Go Go.RowKit
set_option linter.unusedVariables false
set_option linter.unusedSimpArgs false
set_option maxRecDepth 10000
set_option maxHeartbeats 1000000

theorem rounds_law (n r a q : Int) (n1 : -9223372036854775808 ≤ n) (n2 : n < 9223372036854775808) (r1 : -9223372036854775808 ≤ r) (r2 : r < 9223372036854775808) (a1 : -9223372036854775808 ≤ a) (a2 : a < 9223372036854775808) (q1 : -9223372036854775808 ≤ q) (q2 : q < 9223372036854775808) (w : World) : Pure Try.prog 7 #[.int .i64 n, .int .i64 r, .int .i64 a, .int .i64 q] w (.bool true) := by
  refine calls_S (n := 125) (σ0 := (upd (upd (upd (upd fr0 0 (.int .i64 n)) 1 (.int .i64 r)) 2 (.int .i64 a)) 3 (.int .i64 q))) (D := []) (A := []) Try.func7 rfl Try.ntmps7 rfl (a4_fr _ _ _ _) (SH.start w) ?_
  refine wpS_seq ?_
  refine wpS_region ?_
  refine s_y (v := .bool false) (y_assign rfl) rfl ?_
  refine wpL_nil ?_
  refine thenS_n ?_
  refine wpS_cut (fun ds σ L => ∃ nz : Int, (-9223372036854775808 ≤ nz) ∧ (nz ≤ 513) ∧ ds = [] ∧ σ 0 = .int .i64 nz ∧ σ 1 = .int .i64 r ∧ σ 2 = .int .i64 a ∧ σ 3 = .int .i64 q ∧ Ent L []) ?_ ?_
  · -- up to the cut
    refine wpS_seq ?_
    refine wpS_region ?_
    refine s_y (v := .int .i64 n) (y_move rfl) rfl ?_
    refine s_y (v := .bool (decide ((512 : Int) < n))) (y_gtr (a := n) (b := 512) rfl rfl rfl) rfl ?_
    refine wpL_nil ?_
    refine thenS_n ?_
    refine wpS_cond (t := decide ((512 : Int) < n)) rfl (fun b1 => ?_) (fun b1 => ?_)
    · -- decide ((512 : Int) < n) true
      have p1 := of_decide_eq_true b1
      refine wpS_region ?_
      refine s_y (v := .int .i64 n) (y_move rfl) rfl ?_
      refine s_y (v := .int .i64 (((((n).toNat % 2) : Nat) : Int))) (y_rem (a := n) (b := 2) (c := ((((n).toNat % 2) : Nat) : Int)) rfl rfl (by omega) (zq_rem (by omega) (by omega))) rfl ?_
      refine s_y (v := .int .i64 ((((512 + ((n).toNat % 2)) : Nat) : Int))) (y_add (a := 512) (b := ((((n).toNat % 2) : Nat) : Int)) (c := (((512 + ((n).toNat % 2)) : Nat) : Int)) rfl rfl (wI (by omega) (by omega) (by omega))) rfl ?_
      refine s_y (v := .int .i64 ((((512 + ((n).toNat % 2)) : Nat) : Int))) (y_assign rfl) rfl ?_
      refine wpL_nil ?_
      refine thenS_n ?_
      exact ⟨((((512 + ((n).toNat % 2)) : Nat) : Int)), by omega, by omega, rfl, rfl, rfl, rfl, rfl, .nil⟩
    · -- decide ((512 : Int) < n) false
      have p1 := of_decide_eq_false b1
      refine wpS_skip ?_
      refine thenS_n ?_
      exact ⟨n, by omega, by omega, rfl, rfl, rfl, rfl, rfl, .nil⟩
  rintro ds σ L ⟨nz, hf0_2, hf1_2, rfl, h0_2, h1_2, h2_2, h3_2, hE_2⟩
  refine wpS_ent hE_2 ?_; clear hE_2
  have hfl := frs_len nz r
  have hZl := frsZ_len nz r
  have hYl := frsY_len nz r
  have hfa := far_le nz r
  have hur : u64of q % ((frsZ nz r).length + 1) < (frsZ nz r).length + 1 := Nat.mod_lt _ (by omega)
  refine wpS_seq ?_
  refine wpS_region ?_
  refine s_y (v := .int .i64 nz) (y_move h0_2) rfl ?_
  refine s_y (v := .int .i64 r) (y_move h1_2) rfl ?_
  refine s_e rfl ?_
  refine e_call (f := 53) (args := #[.int .i64 nz, .int .i64 r]) (X := Nat × Nat) (A := []) (M := []) (V := fun x : Nat × Nat => .func (.func 152) #[] #[.pointer (some ⟨x.1, 0, none⟩), .pointer (some ⟨x.2, 0, none⟩)]) (A' := fun x : Nat × Nat => [cel x.1 3 [.int .i64 nz], cel x.2 3 [.int .i64 r]]) (C := fun _ => True) Try.call53 (ev2 rfl rfl) (.nil) (fun w hs => round_c nz r w) ?_
  rintro ⟨b_3, b_4⟩ -
  refine s_y (v := .func (.func 152) #[] #[.pointer (some ⟨b_3, 0, none⟩), .pointer (some ⟨b_4, 0, none⟩)]) (y_assign rfl) rfl ?_
  refine wpL_nil ?_
  refine thenS_n ?_
  refine wpS_seq ?_
  refine wpS_region ?_
  refine s_y (v := .func (.func 152) #[] #[.pointer (some ⟨b_3, 0, none⟩), .pointer (some ⟨b_4, 0, none⟩)]) (y_move rfl) rfl ?_
  refine s_e rfl ?_
  refine e_call (f := 54) (args := #[.func (.func 152) #[] #[.pointer (some ⟨b_3, 0, none⟩), .pointer (some ⟨b_4, 0, none⟩)], .int .i64 600]) (X := (Option Addr × Nat) × (Option Addr × Nat)) (A := []) (M := [cel b_3 3 [.int .i64 nz], cel b_4 3 [.int .i64 r]]) (V := fun x => .tuple #[slV (frsZ nz r) x.1, slV (frsY nz r) x.2, .bool true]) (A' := fun x => [slR intV 1 3 (frsZ nz r) x.1, slR intV 1 3 (frsY nz r) x.2]) (C := fun _ => True) Try.call54 (ev2 rfl rfl) (.p .h (.p .h .nil)) (fun w hs => seq2r_c nz r (by omega) (by omega) (by omega) (by omega) b_3 b_4 600 w (own1 .h rfl w hs) (own1 (.t .h) rfl w hs) (by have := frs_len nz r; omega) (by omega)) ?_
  rintro ⟨⟨a_5, c_6⟩, ⟨a_7, c_8⟩⟩ -
  refine s_y (v := .tuple #[.slice a_5 ((frsZ nz r).length) c_6, .slice a_7 ((frsY nz r).length) c_8, .bool true]) (y_move rfl) rfl ?_
  refine s_y (v := .slice a_5 ((frsZ nz r).length) c_6) (y_extract (v := .slice a_5 ((frsZ nz r).length) c_6) rfl rfl) rfl ?_
  refine s_y (v := .slice a_7 ((frsY nz r).length) c_8) (y_extract (v := .slice a_7 ((frsY nz r).length) c_8) rfl rfl) rfl ?_
  refine s_y (v := .bool true) (y_extract (v := .bool true) rfl rfl) rfl ?_
  refine s_y (v := .slice a_5 ((frsZ nz r).length) c_6) (y_assign rfl) rfl ?_
  refine s_y (v := .slice a_7 ((frsY nz r).length) c_8) (y_assign rfl) rfl ?_
  refine s_y (v := .bool true) (y_assign rfl) rfl ?_
  refine wpL_nil ?_
  refine thenS_n ?_
  refine wpS_seq ?_
  refine wpS_region ?_
  refine s_y (v := .int .i64 nz) (y_move h0_2) rfl ?_
  refine s_y (v := .int .i64 r) (y_move h1_2) rfl ?_
  refine s_e rfl ?_
  refine e_call (f := 55) (args := #[.int .i64 nz, .int .i64 r]) (X := Option Addr × Nat) (A := []) (M := [osl a_5 c_6 ((frsZ nz r).length) 1 3 ((frsZ nz r).flatMap intV), osl a_7 c_8 ((frsY nz r).length) 1 3 ((frsY nz r).flatMap intV), cel b_3 3 [.int .i64 nz], cel b_4 3 [.int .i64 r]]) (V := fun x : Option Addr × Nat => .tuple #[slV (frsZ nz r) x, .int .i64 ((far nz r : Nat) : Int)]) (A' := fun x => [slR intV 1 3 (frsZ nz r) x]) (C := fun _ => True) Try.call55 (ev2 rfl rfl) (.p .h (.p .h (.p .h (.p .h .nil)))) (fun w hs => rround_c nz r (by omega) (by omega) (by omega) (by omega) w) ?_
  rintro ⟨a_11, c_12⟩ -
  refine s_y (v := .tuple #[.slice a_11 ((frsZ nz r).length) c_12, .int .i64 ((((far nz r) : Nat) : Int))]) (y_move rfl) rfl ?_
  refine s_y (v := .slice a_11 ((frsZ nz r).length) c_12) (y_extract (v := .slice a_11 ((frsZ nz r).length) c_12) rfl rfl) rfl ?_
  refine s_y (v := .int .i64 ((((far nz r) : Nat) : Int))) (y_extract (v := .int .i64 ((((far nz r) : Nat) : Int))) rfl rfl) rfl ?_
  refine s_y (v := .slice a_11 ((frsZ nz r).length) c_12) (y_assign rfl) rfl ?_
  refine s_y (v := .int .i64 ((((far nz r) : Nat) : Int))) (y_assign rfl) rfl ?_
  refine wpL_nil ?_
  refine thenS_n ?_
  refine wpS_seq ?_
  refine wpS_seq ?_
  refine wpS_region ?_
  refine s_y (v := .bool true) (y_call (args := #[]) (v := .bool true) Try.call51 ev0 (fun w hs => awake13_c w)) rfl ?_
  refine s_y (v := .bool false) (y_notK (b := true) (c := false) rfl rfl) rfl ?_
  refine s_y (v := .bool false) (y_move rfl) rfl ?_
  refine s_gy (y_move rfl) rfl rfl rfl rfl rfl rfl ?_
  refine s_gy (y_notK (b := true) (c := false) rfl rfl) rfl rfl rfl rfl rfl rfl ?_
  refine s_y (v := .bool false) (y_pickF (v := .bool false) rfl rfl rfl) rfl ?_
  refine s_y (v := .bool false) (y_move rfl) rfl ?_
  refine s_gy (y_move h0_2) rfl rfl rfl rfl rfl rfl ?_
  refine s_gy (y_call (args := #[.int .i64 nz]) (v := .int .i64 ((((rnd nz) : Nat) : Int))) Try.call52 (ev1 rfl) (fun w hs => rounds_c nz (by omega) (by omega) w)) rfl rfl rfl rfl rfl rfl ?_
  refine s_gy (y_move h0_2) rfl rfl rfl rfl rfl rfl ?_
  refine s_gy (y_call (args := #[.int .i64 nz]) (v := .int .i64 ((((rnd nz) : Nat) : Int))) Try.call56 (ev1 rfl) (fun w hs => rrnd_c nz (by omega) (by omega) w)) rfl rfl rfl rfl rfl rfl ?_
  refine s_gy (y_neq (a := (((rnd nz) : Nat) : Int)) (b := (((rnd nz) : Nat) : Int)) (c := decide ((rnd nz) ≠ (rnd nz))) rfl rfl (decide_eq_decide.2 (by omega))) rfl rfl rfl rfl rfl rfl ?_
  refine s_y (v := .bool (decide ((rnd nz) ≠ (rnd nz)))) (y_pickF (v := .bool (decide ((rnd nz) ≠ (rnd nz)))) rfl rfl rfl) rfl ?_
  refine s_y (v := .bool (decide ((rnd nz) ≠ (rnd nz)))) (y_move rfl) rfl ?_
  refine s_gy (y_move h0_2) rfl rfl rfl rfl (b' := decide ((rnd nz) ≠ (rnd nz))) rfl (by simp) ?_
  refine s_gy (y_call (args := #[.int .i64 nz]) (v := .int .i64 ((((pad nz) : Nat) : Int))) Try.call50 (ev1 rfl) (fun w hs => padded_c nz (by omega) (by omega) w)) rfl rfl rfl rfl (b' := decide ((rnd nz) ≠ (rnd nz))) rfl (by simp) ?_
  refine s_gy (y_move h0_2) rfl rfl rfl rfl (b' := decide ((rnd nz) ≠ (rnd nz))) rfl (by simp) ?_
  refine s_gy (y_call (args := #[.int .i64 nz]) (v := .int .i64 ((((pad nz) : Nat) : Int))) Try.call57 (ev1 rfl) (fun w hs => rpad_c nz (by omega) (by omega) w)) rfl rfl rfl rfl (b' := decide ((rnd nz) ≠ (rnd nz))) rfl (by simp) ?_
  refine s_gy (y_neq (a := (((pad nz) : Nat) : Int)) (b := (((pad nz) : Nat) : Int)) (c := decide ((pad nz) ≠ (pad nz))) rfl rfl (decide_eq_decide.2 (by omega))) rfl rfl rfl rfl (b' := decide ((rnd nz) ≠ (rnd nz))) rfl (by simp) ?_
  refine s_y (v := .bool (decide ((pad nz) ≠ (pad nz)))) (y_pickF (b := decide ((rnd nz) ≠ (rnd nz))) (v := .bool (decide ((pad nz) ≠ (pad nz)))) rfl (by simp) rfl) rfl ?_
  refine s_y (v := .bool (decide ((pad nz) ≠ (pad nz)))) (y_move rfl) rfl ?_
  refine s_gy (y_move rfl) rfl rfl rfl rfl (b' := decide ((pad nz) ≠ (pad nz))) rfl (by simp) ?_
  refine s_gy (y_move rfl) rfl rfl rfl rfl (b' := decide ((pad nz) ≠ (pad nz))) rfl (by simp) ?_
  refine s_gy (y_call (args := #[.slice a_5 ((frsZ nz r).length) c_6, .slice a_11 ((frsZ nz r).length) c_12]) (v := .bool (decide ((frsZ nz r) = (frsZ nz r)))) Try.call58 (ev2 rfl rfl) (fun w hs => plainI_c a_5 a_11 ((frsZ nz r).length) ((frsZ nz r).length) c_6 c_12 (frsZ nz r) (frsZ nz r) w rfl (oslR (.t .h) w hs) (by omega) rfl (oslR .h w hs) (by omega))) rfl rfl rfl rfl (b' := decide ((pad nz) ≠ (pad nz))) rfl (by simp) ?_
  refine s_gy (y_not (b := decide ((frsZ nz r) = (frsZ nz r))) rfl) rfl rfl rfl rfl (b' := decide ((pad nz) ≠ (pad nz))) rfl (by simp) ?_
  refine s_y (v := .bool (!(decide ((frsZ nz r) = (frsZ nz r))))) (y_pickF (b := decide ((pad nz) ≠ (pad nz))) (v := .bool (!(decide ((frsZ nz r) = (frsZ nz r))))) rfl (by simp) rfl) rfl ?_
  refine s_y (v := .bool (!(decide ((frsZ nz r) = (frsZ nz r))))) (y_move rfl) rfl ?_
  refine s_gy (y_move h0_2) rfl rfl rfl rfl (b' := !(decide ((frsZ nz r) = (frsZ nz r)))) rfl (by simp) ?_
  refine s_gy (y_move h1_2) rfl rfl rfl rfl (b' := !(decide ((frsZ nz r) = (frsZ nz r)))) rfl (by simp) ?_
  refine s_gy (y_move h2_2) rfl rfl rfl rfl (b' := !(decide ((frsZ nz r) = (frsZ nz r)))) rfl (by simp) ?_
  refine s_gy (y_call (args := #[.int .i64 nz, .int .i64 r, .int .i64 a]) (v := .bool ((up nz r a))) Try.call59 (ev3 rfl rfl rfl) (fun w hs => up_c nz r a (by omega) (by omega) (by omega) (by omega) (by omega) (by omega) w)) rfl rfl rfl rfl (b' := !(decide ((frsZ nz r) = (frsZ nz r)))) rfl (by simp) ?_
  refine s_gy (y_move h0_2) rfl rfl rfl rfl (b' := !(decide ((frsZ nz r) = (frsZ nz r)))) rfl (by simp) ?_
  refine s_gy (y_move h1_2) rfl rfl rfl rfl (b' := !(decide ((frsZ nz r) = (frsZ nz r)))) rfl (by simp) ?_
  refine s_gy (y_move h2_2) rfl rfl rfl rfl (b' := !(decide ((frsZ nz r) = (frsZ nz r)))) rfl (by simp) ?_
  refine s_gy (y_call (args := #[.int .i64 nz, .int .i64 r, .int .i64 a]) (v := .bool ((up nz r a))) Try.call60 (ev3 rfl rfl rfl) (fun w hs => rup_c nz r a (by omega) (by omega) (by omega) (by omega) (by omega) (by omega) w)) rfl rfl rfl rfl (b' := !(decide ((frsZ nz r) = (frsZ nz r)))) rfl (by simp) ?_
  refine s_gy (y_neqB (a := (up nz r a)) (b := (up nz r a)) Try.underlying4 rfl rfl rfl) rfl rfl rfl rfl (b' := !(decide ((frsZ nz r) = (frsZ nz r)))) rfl (by simp) ?_
  refine s_y (v := .bool (!((up nz r a) == (up nz r a)))) (y_pickF (b := !(decide ((frsZ nz r) = (frsZ nz r)))) (v := .bool (!((up nz r a) == (up nz r a)))) rfl (by simp) rfl) rfl ?_
  refine wpL_nil ?_
  refine thenS_n ?_
  refine wpS_cond_F (t := !((up nz r a) == (up nz r a))) rfl (by simp) ?_
  refine wpS_skip ?_
  refine thenS_n ?_
  refine wpS_seq ?_
  refine wpS_seq ?_
  refine wpS_region ?_
  refine s_y (v := .int .i64 0) (y_assign rfl) rfl ?_
  refine wpL_nil ?_
  refine thenS_n ?_
  refine wpS_block ?_
  refine wpS_loop (fun m ds σ L => ∃ i : Nat, m = (frsZ nz r).length - i ∧ (i ≤ (frsZ nz r).length) ∧ ds = [] ∧ σ 0 = .int .i64 nz ∧ σ 1 = .int .i64 r ∧ σ 3 = .int .i64 q ∧ σ 9 = .func (.func 152) #[] #[.pointer (some ⟨b_3, 0, none⟩), .pointer (some ⟨b_4, 0, none⟩)] ∧ σ 11 = .slice a_7 ((frsY nz r).length) c_8 ∧ σ 13 = .slice a_11 ((frsZ nz r).length) c_12 ∧ σ 14 = .int .i64 ((((far nz r) : Nat) : Int)) ∧ σ 15 = .int .i64 (((i : Nat) : Int)) ∧ Ent L [osl a_11 c_12 ((frsZ nz r).length) 1 3 ((frsZ nz r).flatMap intV), osl a_5 c_6 ((frsZ nz r).length) 1 3 ((frsZ nz r).flatMap intV), osl a_7 c_8 ((frsY nz r).length) 1 3 ((frsY nz r).flatMap intV), cel b_3 3 [.int .i64 nz], cel b_4 3 [.int .i64 r]]) (m0 := (frsZ nz r).length - 0) ⟨0, rfl, by omega, rfl, h0_2, h1_2, h3_2, rfl, rfl, rfl, rfl, rfl, .p .h (.p .h (.p .h (.p .h (.p .h .nil))))⟩ ?_
  rintro m ds σ L ⟨i, hm_14, hf0_14, rfl, h0_14, h1_14, h3_14, h9_14, h11_14, h13_14, h14_14, h15_14, hE_14⟩
  refine wpS_ent hE_14 ?_; clear hE_14
  have hzb := frsZ_bd nz r i
  refine wpS_seq ?_
  refine wpS_seq ?_
  refine wpS_region ?_
  refine s_y (v := .int .i64 (((i : Nat) : Int))) (y_move h15_14) rfl ?_
  refine s_y (v := .slice a_11 ((frsZ nz r).length) c_12) (y_move h13_14) rfl ?_
  refine s_y (v := .int .i64 ((((frsZ nz r).length : Nat) : Int))) (y_len (ty' := 0) (at_ := #[]) rfl Try.underlying39) rfl ?_
  refine s_y (v := .bool (decide (i < ((frsZ nz r).length)))) (y_lss (a := ((i : Nat) : Int)) (b := (((frsZ nz r).length : Nat) : Int)) (c := decide (i < ((frsZ nz r).length))) rfl rfl (decide_eq_decide.2 (by omega))) rfl ?_
  refine wpL_nil ?_
  refine thenS_n ?_
  refine wpS_cond (t := decide (i < ((frsZ nz r).length))) rfl (fun b15 => ?_) (fun b15 => ?_)
  · -- decide (i < ((frsZ nz r).length)) true
    have p15 := of_decide_eq_true b15
    refine wpS_skip ?_
    refine thenS_n ?_
    refine wpS_seq ?_
    refine wpS_block ?_
    refine wpS_seq ?_
    refine wpS_lex (by kernel_rfl) (by kernel_rfl) ?_
    refine x_y (v := .slice a_7 ((frsY nz r).length) c_8) (y_move h11_14) rfl ?_
    refine x_y (v := .int .i64 (((i : Nat) : Int))) (y_move h15_14) rfl ?_
    refine x_y (v := .pointer (some ⟨aB a_7, aO a_7 + i * 1, none⟩)) (y_idx (o := i * 1) rfl rfl Try.underlying39 Try.sizeOf3 (oslR (.t (.t .h))) (fl_len intV_len _) (by decide) (by omega) (by omega) (by omega)) rfl ?_
    refine x_y (v := .int .i64 (((frsY nz r).getD i default))) (y_load1 (v := .int .i64 (((frsY nz r).getD i default))) rfl Try.isAgg3 (rd1 (k := i * 1) (oslR (.t (.t .h))) (fl_get0 intV_len (frsY nz r) i (by first | omega | (simp only [List.length_set, List.length_take, List.length_drop]; done) | (simp only [List.length_set, List.length_take, List.length_drop]; omega)) rfl))) rfl ?_
    refine x_y (v := .slice a_11 ((frsZ nz r).length) c_12) (y_move h13_14) rfl ?_
    refine x_y (v := .int .i64 (((i : Nat) : Int))) (y_move h15_14) rfl ?_
    refine x_y (v := .pointer (some ⟨aB a_11, aO a_11 + i * 1, none⟩)) (y_idx (o := i * 1) rfl rfl Try.underlying39 Try.sizeOf3 (oslR .h) (fl_len intV_len _) (by decide) (by omega) (by omega) (by omega)) rfl ?_
    refine x_y (v := .int .i64 (((frsZ nz r).getD i default))) (y_load1 (v := .int .i64 (((frsZ nz r).getD i default))) rfl Try.isAgg3 (rd1 (k := i * 1) (oslR .h) (fl_get0 intV_len (frsZ nz r) i (by first | omega | (simp only [List.length_set, List.length_take, List.length_drop]; done) | (simp only [List.length_set, List.length_take, List.length_drop]; omega)) rfl))) rfl ?_
    refine x_y (v := .int .i64 ((((far nz r) : Nat) : Int))) (y_move h14_14) rfl ?_
    refine x_y (v := .int .i64 (((frsZ nz r).getD i default) + (((far nz r) : Nat) : Int))) (y_add (a := ((frsZ nz r).getD i default)) (b := (((far nz r) : Nat) : Int)) (c := ((frsZ nz r).getD i default) + (((far nz r) : Nat) : Int)) rfl rfl (wI rfl (by omega) (by omega))) rfl ?_
    refine x_y (v := .bool (decide ((((frsY nz r).getD i default) : Int) ≠ (((frsZ nz r).getD i default) + (((far nz r) : Nat) : Int))))) (y_neq (a := ((frsY nz r).getD i default)) (b := ((frsZ nz r).getD i default) + (((far nz r) : Nat) : Int)) rfl rfl rfl) rfl ?_
    refine x_y (v := .bool (decide ((((frsY nz r).getD i default) : Int) ≠ (((frsZ nz r).getD i default) + (((far nz r) : Nat) : Int))))) (y_move rfl) rfl ?_
    refine x_gy (y_move h0_14) rfl rfl rfl rfl (b' := decide ((((frsY nz r).getD i default) : Int) ≠ (((frsZ nz r).getD i default) + (((far nz r) : Nat) : Int)))) rfl (decide_eq_false (fun h => h (frsY_at (by omega)))) ?_
    refine x_gy (y_move h1_14) rfl rfl rfl rfl (b' := decide ((((frsY nz r).getD i default) : Int) ≠ (((frsZ nz r).getD i default) + (((far nz r) : Nat) : Int)))) rfl (decide_eq_false (fun h => h (frsY_at (by omega)))) ?_
    refine x_gy (y_move h13_14) rfl rfl rfl rfl (b' := decide ((((frsY nz r).getD i default) : Int) ≠ (((frsZ nz r).getD i default) + (((far nz r) : Nat) : Int)))) rfl (decide_eq_false (fun h => h (frsY_at (by omega)))) ?_
    refine x_gy (y_move h15_14) rfl rfl rfl rfl (b' := decide ((((frsY nz r).getD i default) : Int) ≠ (((frsZ nz r).getD i default) + (((far nz r) : Nat) : Int)))) rfl (decide_eq_false (fun h => h (frsY_at (by omega)))) ?_
    refine x_gy (y_idx (o := i * 1) rfl rfl Try.underlying39 Try.sizeOf3 (oslR .h) (fl_len intV_len _) (by decide) (by omega) (by omega) (by omega)) rfl rfl rfl rfl (b' := decide ((((frsY nz r).getD i default) : Int) ≠ (((frsZ nz r).getD i default) + (((far nz r) : Nat) : Int)))) rfl (decide_eq_false (fun h => h (frsY_at (by omega)))) ?_
    refine x_gy (y_load1 (v := .int .i64 (((frsZ nz r).getD i default))) rfl Try.isAgg3 (rd1 (k := i * 1) (oslR .h) (fl_get0 intV_len (frsZ nz r) i (by first | omega | (simp only [List.length_set, List.length_take, List.length_drop]; done) | (simp only [List.length_set, List.length_take, List.length_drop]; omega)) rfl))) rfl rfl rfl rfl (b' := decide ((((frsY nz r).getD i default) : Int) ≠ (((frsZ nz r).getD i default) + (((far nz r) : Nat) : Int)))) rfl (decide_eq_false (fun h => h (frsY_at (by omega)))) ?_
    refine x_gy (y_call (args := #[.int .i64 nz, .int .i64 r, .int .i64 (((frsZ nz r).getD i default))]) (v := .bool ((up nz r ((frsZ nz r).getD i default)))) Try.call59 (ev3 rfl rfl rfl) (fun w hs => up_c nz r ((frsZ nz r).getD i default) (by omega) (by omega) (by omega) (by omega) (by omega) (by omega) w)) rfl rfl rfl rfl (b' := decide ((((frsY nz r).getD i default) : Int) ≠ (((frsZ nz r).getD i default) + (((far nz r) : Nat) : Int)))) rfl (decide_eq_false (fun h => h (frsY_at (by omega)))) ?_
    refine x_gy (y_move h0_14) rfl rfl rfl rfl (b' := decide ((((frsY nz r).getD i default) : Int) ≠ (((frsZ nz r).getD i default) + (((far nz r) : Nat) : Int)))) rfl (decide_eq_false (fun h => h (frsY_at (by omega)))) ?_
    refine x_gy (y_move h1_14) rfl rfl rfl rfl (b' := decide ((((frsY nz r).getD i default) : Int) ≠ (((frsZ nz r).getD i default) + (((far nz r) : Nat) : Int)))) rfl (decide_eq_false (fun h => h (frsY_at (by omega)))) ?_
    refine x_gy (y_move h13_14) rfl rfl rfl rfl (b' := decide ((((frsY nz r).getD i default) : Int) ≠ (((frsZ nz r).getD i default) + (((far nz r) : Nat) : Int)))) rfl (decide_eq_false (fun h => h (frsY_at (by omega)))) ?_
    refine x_gy (y_move h15_14) rfl rfl rfl rfl (b' := decide ((((frsY nz r).getD i default) : Int) ≠ (((frsZ nz r).getD i default) + (((far nz r) : Nat) : Int)))) rfl (decide_eq_false (fun h => h (frsY_at (by omega)))) ?_
    refine x_gy (y_idx (o := i * 1) rfl rfl Try.underlying39 Try.sizeOf3 (oslR .h) (fl_len intV_len _) (by decide) (by omega) (by omega) (by omega)) rfl rfl rfl rfl (b' := decide ((((frsY nz r).getD i default) : Int) ≠ (((frsZ nz r).getD i default) + (((far nz r) : Nat) : Int)))) rfl (decide_eq_false (fun h => h (frsY_at (by omega)))) ?_
    refine x_gy (y_load1 (v := .int .i64 (((frsZ nz r).getD i default))) rfl Try.isAgg3 (rd1 (k := i * 1) (oslR .h) (fl_get0 intV_len (frsZ nz r) i (by first | omega | (simp only [List.length_set, List.length_take, List.length_drop]; done) | (simp only [List.length_set, List.length_take, List.length_drop]; omega)) rfl))) rfl rfl rfl rfl (b' := decide ((((frsY nz r).getD i default) : Int) ≠ (((frsZ nz r).getD i default) + (((far nz r) : Nat) : Int)))) rfl (decide_eq_false (fun h => h (frsY_at (by omega)))) ?_
    refine x_gy (y_call (args := #[.int .i64 nz, .int .i64 r, .int .i64 (((frsZ nz r).getD i default))]) (v := .bool ((up nz r ((frsZ nz r).getD i default)))) Try.call60 (ev3 rfl rfl rfl) (fun w hs => rup_c nz r ((frsZ nz r).getD i default) (by omega) (by omega) (by omega) (by omega) (by omega) (by omega) w)) rfl rfl rfl rfl (b' := decide ((((frsY nz r).getD i default) : Int) ≠ (((frsZ nz r).getD i default) + (((far nz r) : Nat) : Int)))) rfl (decide_eq_false (fun h => h (frsY_at (by omega)))) ?_
    refine x_gy (y_neqB (a := (up nz r ((frsZ nz r).getD i default))) (b := (up nz r ((frsZ nz r).getD i default))) Try.underlying4 rfl rfl rfl) rfl rfl rfl rfl (b' := decide ((((frsY nz r).getD i default) : Int) ≠ (((frsZ nz r).getD i default) + (((far nz r) : Nat) : Int)))) rfl (decide_eq_false (fun h => h (frsY_at (by omega)))) ?_
    refine x_y (v := .bool (!((up nz r ((frsZ nz r).getD i default)) == (up nz r ((frsZ nz r).getD i default))))) (y_pickF (b := decide ((((frsY nz r).getD i default) : Int) ≠ (((frsZ nz r).getD i default) + (((far nz r) : Nat) : Int)))) (v := .bool (!((up nz r ((frsZ nz r).getD i default)) == (up nz r ((frsZ nz r).getD i default))))) rfl (decide_eq_false (fun h => h (frsY_at (by omega)))) rfl) rfl ?_
    refine x_nil ?_
    refine thenS_n ?_
    refine wpS_cond_F (t := !((up nz r ((frsZ nz r).getD i default)) == (up nz r ((frsZ nz r).getD i default)))) rfl (by simp) ?_
    refine wpS_skip ?_
    refine blockS_n ?_
    refine thenS_n ?_
    refine wpS_region ?_
    refine s_y (v := .int .i64 (((i : Nat) : Int))) (y_move h15_14) rfl ?_
    refine s_y (v := .int .i64 ((((i + 1) : Nat) : Int))) (y_add (a := ((i : Nat) : Int)) (b := 1) (c := (((i + 1) : Nat) : Int)) rfl rfl (wI (by omega) (by omega) (by omega))) rfl ?_
    refine s_y (v := .int .i64 ((((i + 1) : Nat) : Int))) (y_assign rfl) rfl ?_
    refine wpL_nil ?_
    refine thenS_n ?_
    exact ⟨_, by omega, ⟨(i + 1), rfl, by omega, rfl, h0_14, h1_14, h3_14, h9_14, h11_14, h13_14, h14_14, rfl, .p .h (.p .h (.p .h (.p .h (.p .h .nil))))⟩⟩
  · -- decide (i < ((frsZ nz r).length)) false
    have p15 := of_decide_eq_false b15
    refine wpS_exit ?_
    refine thenS_x ?_
    refine thenS_x ?_
    refine blockS_h ?_
    refine thenS_n ?_
    refine wpS_seq ?_
    refine wpS_region ?_
    refine s_y (v := .int .i64 q) (y_move h3_14) rfl ?_
    refine s_y (v := .int .u64 ((((u64of q) : Nat) : Int))) (y_convI (a := q) (c := (((u64of q) : Nat) : Int)) rfl Try.underlying3 Try.underlying46 (u64of_wrap _)) rfl ?_
    refine s_y (v := .slice a_11 ((frsZ nz r).length) c_12) (y_move h13_14) rfl ?_
    refine s_y (v := .int .i64 ((((frsZ nz r).length : Nat) : Int))) (y_len (ty' := 0) (at_ := #[]) rfl Try.underlying39) rfl ?_
    refine s_y (v := .int .i64 (((((frsZ nz r).length + 1) : Nat) : Int))) (y_add (a := (((frsZ nz r).length : Nat) : Int)) (b := 1) (c := ((((frsZ nz r).length + 1) : Nat) : Int)) rfl rfl (wI (by omega) (by omega) (by omega))) rfl ?_
    refine s_y (v := .int .u64 (((((frsZ nz r).length + 1) : Nat) : Int))) (y_convI (a := ((((frsZ nz r).length + 1) : Nat) : Int)) (c := ((((frsZ nz r).length + 1) : Nat) : Int)) rfl Try.underlying3 Try.underlying46 (wU rfl (by omega) (by omega))) rfl ?_
    refine s_y (v := .int .u64 (((((u64of q) % ((frsZ nz r).length + 1)) : Nat) : Int))) (y_rem (a := (((u64of q) : Nat) : Int)) (b := ((((frsZ nz r).length + 1) : Nat) : Int)) (c := ((((u64of q) % ((frsZ nz r).length + 1)) : Nat) : Int)) rfl rfl (by omega) (n_rem _ ((frsZ nz r).length + 1) (by omega))) rfl ?_
    refine s_y (v := .int .i64 (((((u64of q) % ((frsZ nz r).length + 1)) : Nat) : Int))) (y_convI (a := ((((u64of q) % ((frsZ nz r).length + 1)) : Nat) : Int)) (c := ((((u64of q) % ((frsZ nz r).length + 1)) : Nat) : Int)) rfl Try.underlying46 Try.underlying3 (wI rfl (by omega) (by omega))) rfl ?_
    refine s_y (v := .int .i64 ((((1 + ((u64of q) % ((frsZ nz r).length + 1))) : Nat) : Int))) (y_add (a := 1) (b := ((((u64of q) % ((frsZ nz r).length + 1)) : Nat) : Int)) (c := (((1 + ((u64of q) % ((frsZ nz r).length + 1))) : Nat) : Int)) rfl rfl (wI (by omega) (by omega) (by omega))) rfl ?_
    refine s_y (v := .int .i64 ((((1 + ((u64of q) % ((frsZ nz r).length + 1))) : Nat) : Int))) (y_assign rfl) rfl ?_
    refine wpL_nil ?_
    refine thenS_n ?_
    refine wpS_seq ?_
    refine wpS_region ?_
    refine s_y (v := .func (.func 152) #[] #[.pointer (some ⟨b_3, 0, none⟩), .pointer (some ⟨b_4, 0, none⟩)]) (y_move h9_14) rfl ?_
    refine s_y (v := .int .i64 ((((1 + ((u64of q) % ((frsZ nz r).length + 1))) : Nat) : Int))) (y_move rfl) rfl ?_
    refine s_y (v := .int .i64 (min (((1 + ((u64of q) % ((frsZ nz r).length + 1))) : Nat) : Int) (((frs nz r).length : Nat) : Int))) (y_call (args := #[.func (.func 152) #[] #[.pointer (some ⟨b_3, 0, none⟩), .pointer (some ⟨b_4, 0, none⟩)], .int .i64 ((((1 + ((u64of q) % ((frsZ nz r).length + 1))) : Nat) : Int))]) (v := .int .i64 (min (((1 + ((u64of q) % ((frsZ nz r).length + 1))) : Nat) : Int) (((frs nz r).length : Nat) : Int))) Try.call61 (ev2 rfl rfl) (fun w hs => stopsr_c nz r (by omega) (by omega) (by omega) (by omega) b_3 b_4 (((1 + ((u64of q) % ((frsZ nz r).length + 1))) : Nat) : Int) w (own1 (.t (.t (.t .h))) rfl w hs) (own1 (.t (.t (.t (.t .h)))) rfl w hs) (by omega) (by omega))) rfl ?_
    refine s_y (v := .int .i64 ((((1 + ((u64of q) % ((frsZ nz r).length + 1))) : Nat) : Int))) (y_move rfl) rfl ?_
    refine s_y (v := .slice a_11 ((frsZ nz r).length) c_12) (y_move h13_14) rfl ?_
    refine s_y (v := .int .i64 ((((frsZ nz r).length : Nat) : Int))) (y_len (ty' := 0) (at_ := #[]) rfl Try.underlying39) rfl ?_
    refine s_y (v := .int .i64 ((((min (1 + ((u64of q) % ((frsZ nz r).length + 1))) (frsZ nz r).length) : Nat) : Int))) (y_min (a := (((1 + ((u64of q) % ((frsZ nz r).length + 1))) : Nat) : Int)) (b := (((frsZ nz r).length : Nat) : Int)) (c := (((min (1 + ((u64of q) % ((frsZ nz r).length + 1))) (frsZ nz r).length) : Nat) : Int)) rfl rfl (by split <;> omega)) rfl ?_
    refine s_y (v := .bool (decide ((min (((1 + ((u64of q) % ((frsZ nz r).length + 1))) : Nat) : Int) (((frs nz r).length : Nat) : Int) : Int) = (((min (1 + ((u64of q) % ((frsZ nz r).length + 1))) (frsZ nz r).length) : Nat) : Int)))) (y_eql (a := min (((1 + ((u64of q) % ((frsZ nz r).length + 1))) : Nat) : Int) (((frs nz r).length : Nat) : Int)) (b := (((min (1 + ((u64of q) % ((frsZ nz r).length + 1))) (frsZ nz r).length) : Nat) : Int)) rfl rfl rfl) rfl ?_
    refine s_y (v := .bool (decide ((min (((1 + ((u64of q) % ((frsZ nz r).length + 1))) : Nat) : Int) (((frs nz r).length : Nat) : Int) : Int) = (((min (1 + ((u64of q) % ((frsZ nz r).length + 1))) (frsZ nz r).length) : Nat) : Int)))) (y_assign rfl) rfl ?_
    refine wpL_nil ?_
    refine thenS_n ?_
    refine wpS_ret ?_
    refine fin1 (M := []) (v := .bool (decide ((min (((1 + ((u64of q) % ((frsZ nz r).length + 1))) : Nat) : Int) (((frs nz r).length : Nat) : Int) : Int) = (((min (1 + ((u64of q) % ((frsZ nz r).length + 1))) (frsZ nz r).length) : Nat) : Int)))) (.inr rfl) (.nil) Try.results7 rfl ?_
    exact fun w' hs => ⟨congrArg (fun b => Ending.returned (Value.bool b)) (decide_eq_true (by rw [hZl]; omega)), hs⟩

end Go.Proofs.Ytldkjjnjdjfipaa
