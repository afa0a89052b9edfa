/- Sorting keeps the order of what ties, walked. -/
import Derived.Test.YtldkjjnjdjfipaaP14c
namespace Go.Proofs.Ytldkjjnjdjfipaa
open Go Go.RowKit
set_option linter.unusedVariables false
set_option linter.unusedSimpArgs false
set_option maxRecDepth 10000

theorem stable_law (a : Option Addr) (n c : Nat) (l : List Int64) (w : World) (hn : l.length = n) (hc : n ≤ c) (hr : Rds w a (l.flatMap i64V)) : Pure Try.prog 15 #[.slice a n c] w (.bool true) := by
  refine calls_S (n := 88) (σ0 := (upd fr0 0 (.slice a n c))) (D := []) (A := []) Try.func15 rfl Try.ntmps15 rfl (a1_fr _) (SH.start w) ?_
  refine wpS_seq ?_
  refine wpS_region ?_
  refine s_y (v := .bool false) (y_assign rfl) rfl ?_
  refine wpL_nil ?_
  refine thenS_n ?_
  refine wpS_seq ?_
  refine wpS_seq ?_
  refine wpS_region ?_
  refine s_y (v := .slice a n c) (y_move rfl) rfl ?_
  refine s_y (v := .int .i64 (((n : Nat) : Int))) (y_len (ty' := 0) (at_ := #[]) rfl Try.underlying39) rfl ?_
  refine s_y (v := .bool (decide ((60 : Nat) < n))) (y_gtr (a := ((n : Nat) : Int)) (b := 60) (c := decide ((60 : Nat) < n)) rfl rfl (decide_eq_decide.2 (by omega))) rfl ?_
  refine wpL_nil ?_
  refine thenS_n ?_
  refine wpS_cond (t := decide ((60 : Nat) < n)) rfl (fun b1 => ?_) (fun b1 => ?_)
  · -- decide ((60 : Nat) < n) true
    have p1 := of_decide_eq_true b1
    refine wpS_seq ?_
    refine wpS_region ?_
    refine s_y (v := .bool true) (y_call (args := #[]) (v := .bool true) Try.call72 ev0 (fun w hs => awake14_c w)) rfl ?_
    refine s_y (v := .bool true) (y_assign rfl) rfl ?_
    refine wpL_nil ?_
    refine thenS_n ?_
    refine wpS_ret ?_
    refine thenS_r ?_
    refine fin1 (v := .bool true) (.inr rfl) (.nil) Try.results15 rfl ?_
    exact fun w' hs => ⟨rfl, hs⟩
  · -- decide ((60 : Nat) < n) false
    have p1 := of_decide_eq_false b1
    refine wpS_skip ?_
    refine thenS_n ?_
    refine wpS_seq ?_
    refine wpS_region ?_
    refine s_y (v := .slice none 0 0) (y_assign rfl) rfl ?_
    refine wpL_nil ?_
    refine thenS_n ?_
    refine wpS_seq ?_
    refine wpS_seq ?_
    refine wpS_region ?_
    refine s_y (v := .int .i64 0) (y_assign rfl) rfl ?_
    refine wpL_nil ?_
    refine thenS_n ?_
    refine wpS_block ?_
    refine wpS_nil0 4 23 ?_
    refine wpS_loop (fun m ds σ L => ∃ i : Nat, ∃ a1 : Option Addr, ∃ c1 : Nat, m = n - i ∧ (i ≤ n) ∧ ds = [] ∧ σ 0 = .slice a n c ∧ σ 3 = .slice a1 ((stabL l i).length) c1 ∧ σ 4 = .int .i64 (((i : Nat) : Int)) ∧ Ent L [osl a1 c1 ((stabL l i).length) 4 23 ((stabL l i).flatMap recV)]) (m0 := n - 0) ⟨0, none, 0, rfl, by omega, rfl, rfl, rfl, rfl, .p .h .nil⟩ ?_
    rintro m ds σ L ⟨i, a1, c1, hm_2, hf0_2, rfl, h0_2, h3_2, h4_2, hE_2⟩
    refine wpS_ent hE_2 ?_; clear hE_2
    have hsl := stabL_len l i
    refine wpS_seq ?_
    refine wpS_seq ?_
    refine wpS_region ?_
    refine s_y (v := .int .i64 (((i : Nat) : Int))) (y_move h4_2) rfl ?_
    refine s_y (v := .slice a n c) (y_move h0_2) rfl ?_
    refine s_y (v := .int .i64 (((n : Nat) : Int))) (y_len (ty' := 0) (at_ := #[]) rfl Try.underlying39) rfl ?_
    refine s_y (v := .bool (decide (i < n))) (y_lss (a := ((i : Nat) : Int)) (b := ((n : Nat) : Int)) (c := decide (i < n)) rfl rfl (decide_eq_decide.2 (by omega))) rfl ?_
    refine wpL_nil ?_
    refine thenS_n ?_
    refine wpS_cond (t := decide (i < n)) rfl (fun b3 => ?_) (fun b3 => ?_)
    · -- decide (i < n) true
      have p3 := of_decide_eq_true b3
      refine wpS_skip ?_
      refine thenS_n ?_
      refine wpS_seq ?_
      refine wpS_block ?_
      refine wpS_region ?_
      refine s_y (v := .slice a1 ((stabL l i).length) c1) (y_move h3_2) rfl ?_
      refine s_y (v := .slice a n c) (y_move h0_2) rfl ?_
      refine s_y (v := .int .i64 (((i : Nat) : Int))) (y_move h4_2) rfl ?_
      refine s_y (v := .pointer (some ⟨aB a, aO a + i * 1, none⟩)) (y_idx (o := i * 1) rfl rfl Try.underlying39 Try.sizeOf3 (oldR hr) ((fl_len i64V_len _).trans (by first | omega | (simp only [List.length_set, List.length_take, List.length_drop]; done) | (simp only [List.length_set, List.length_take, List.length_drop]; omega))) (by decide) (by omega) (by omega) (by omega)) rfl ?_
      refine s_y (v := .int .i64 (((l.getD i default)).toInt)) (y_load1 (v := .int .i64 (((l.getD i default)).toInt)) rfl Try.isAgg3 (rd1 (k := i * 1) (oldR hr) (fl_get0 i64V_len l i (by first | omega | (simp only [List.length_set, List.length_take, List.length_drop]; done) | (simp only [List.length_set, List.length_take, List.length_drop]; omega)) rfl))) rfl ?_
      refine s_y (v := .int .u64 (((l.getD i default).toUInt64).toNat)) (y_convI (a := ((l.getD i default)).toInt) (c := ((l.getD i default).toUInt64).toNat) rfl Try.underlying3 Try.underlying46 (iu_conv _)) rfl ?_
      refine s_y (v := .int .u64 (((((l.getD i default).toUInt64) % 4)).toNat)) (y_rem (a := ((l.getD i default).toUInt64).toNat) (b := 4) (c := ((((l.getD i default).toUInt64) % 4)).toNat) rfl rfl (by decide) (u_rem4 _)) rfl ?_
      refine s_y (v := .int .i64 (((((l.getD i default).toUInt64) % 4).toInt64).toInt)) (y_convI (a := ((((l.getD i default).toUInt64) % 4)).toNat) (c := ((((l.getD i default).toUInt64) % 4).toInt64).toInt) rfl Try.underlying46 Try.underlying2 (ui_conv _)) rfl ?_
      refine s_y (v := .int .i64 (((i : Nat) : Int))) (y_move h4_2) rfl ?_
      refine s_y (v := .int .i64 (((i : Nat) : Int))) (y_move h4_2) rfl ?_
      refine s_y (v := .int .i64 (-((i : Nat) : Int))) (y_neg (a := ((i : Nat) : Int)) (c := -((i : Nat) : Int)) rfl (wI (by omega) (by omega) (by omega))) rfl ?_
      refine s_y (v := .agg #[.bool false, .int .i64 (((((l.getD i default).toUInt64) % 4).toInt64).toInt), .int .i64 (((i : Nat) : Int)), .int .i64 (-((i : Nat) : Int))]) (y_buildL (m := [(1, .int .i64 (((((l.getD i default).toUInt64) % 4).toInt64).toInt)), (2, .int .i64 (((i : Nat) : Int))), (3, .int .i64 (-((i : Nat) : Int)))]) (vs := #[.bool false, .int .i64 (((((l.getD i default).toUInt64) % 4).toInt64).toInt), .int .i64 (((i : Nat) : Int)), .int .i64 (-((i : Nat) : Int))]) (evc rfl (evc rfl (evc rfl evn))) (fun w => by kernel_rfl)) rfl ?_
      refine s_e rfl ?_
      refine e_bsliceL (e := 23) (m := [(0, .agg #[.bool false, .int .i64 (((((l.getD i default).toUInt64) % 4).toInt64).toInt), .int .i64 (((i : Nat) : Int)), .int .i64 (-((i : Nat) : Int))])]) (l := [.bool false, .int .i64 (((((l.getD i default).toUInt64) % 4).toInt64).toInt), .int .i64 (((i : Nat) : Int)), .int .i64 (-((i : Nat) : Int))]) (evc rfl evn) (fun w => by kernel_rfl) ?_
      intro b_4
      refine s_e rfl ?_
      refine e_appendL (enc := recV) (xs := ((stabL l i) : List Rec)) (ns := ([(stabRec (l.getD i default) i)] : List Rec)) (zs := (stabL l (i + 1))) (bytes := 32) recV_len recV_one Try.underlying69 (i := Try.t23) rfl rfl rfl rfl rfl (by decide) rfl rfl (by first | rfl | omega) (by first | rfl | omega) (.t .h) (fun w hs => by rw [stab_cells _ _ (by omega)]; exact celR .h w hs) (stabL_succ l i) (by rw [stabL_len]; omega) (by rw [stabL_len]; omega) ?_
      intro a_5 c_6
      refine s_y (v := .slice a_5 ((stabL l (i + 1)).length) c_6) (y_assign rfl) rfl ?_
      refine wpL_nil ?_
      refine blockS_n ?_
      refine thenS_n ?_
      refine wpS_region ?_
      refine s_y (v := .int .i64 (((i : Nat) : Int))) (y_move h4_2) rfl ?_
      refine s_y (v := .int .i64 ((((i + 1) : Nat) : Int))) (y_add (a := ((i : Nat) : Int)) (b := 1) (c := (((i + 1) : Nat) : Int)) rfl rfl (wI (by omega) (by omega) (by omega))) rfl ?_
      refine s_y (v := .int .i64 ((((i + 1) : Nat) : Int))) (y_assign rfl) rfl ?_
      refine wpL_nil ?_
      refine thenS_n ?_
      exact ⟨_, by omega, ⟨(i + 1), a_5, c_6, rfl, by omega, rfl, h0_2, rfl, rfl, .p .h .nil⟩⟩
    · -- decide (i < n) false
      have p3 := of_decide_eq_false b3
      refine wpS_exit ?_
      refine thenS_x ?_
      refine thenS_x ?_
      refine blockS_h ?_
      refine thenS_n ?_
      refine wpS_seq ?_
      refine wpS_region ?_
      refine s_y (v := .slice a1 ((stabL l i).length) c1) (y_move h3_2) rfl ?_
      refine s_e rfl ?_
      refine e_call (f := 74) (args := #[.slice a1 ((stabL l i).length) c1, .bool false]) (X := Option Addr × Nat) (A := []) (M := [osl a1 c1 ((stabL l i).length) 4 23 ((stabL l i).flatMap recV)]) (V := slV (msort false (stabL l i))) (A' := fun x => [slR recV 4 23 (msort false (stabL l i)) x]) (C := fun x => (msort false (stabL l i)).length ≤ x.2) Try.call74 (ev2 rfl rfl) (.p .h .nil) (fun w hs => (sort_c a1 ((stabL l i).length) c1 (stabL l i) false w rfl (oslR .h w hs) (by omega)).cap) ?_
      rintro ⟨a_7, c_8⟩ hc9; replace hc9 : (msort false (stabL l i)).length ≤ c_8 := hc9
      refine s_y (v := .slice a_7 ((msort false (stabL l i)).length) c_8) (y_assign rfl) rfl ?_
      refine wpL_nil ?_
      refine thenS_n ?_
      refine wpS_seq ?_
      refine wpS_seq ?_
      refine wpS_region ?_
      refine s_y (v := .bool true) (y_call (args := #[]) (v := .bool true) Try.call72 ev0 (fun w hs => awake14_c w)) rfl ?_
      refine s_y (v := .bool false) (y_notK (b := true) (c := false) rfl rfl) rfl ?_
      refine s_y (v := .bool false) (y_move rfl) rfl ?_
      refine s_gy (y_move rfl) rfl rfl rfl rfl rfl rfl ?_
      refine s_gy (y_len (ty' := 0) (at_ := #[]) rfl Try.underlying69) rfl rfl rfl rfl rfl rfl ?_
      refine s_gy (y_move h3_2) rfl rfl rfl rfl rfl rfl ?_
      refine s_gy (y_len (ty' := 0) (at_ := #[]) rfl Try.underlying69) rfl rfl rfl rfl rfl rfl ?_
      refine s_gy (y_neq (a := (((msort false (stabL l i)).length : Nat) : Int)) (b := (((stabL l i).length : Nat) : Int)) (c := decide (((msort false (stabL l i)).length) ≠ ((stabL l i).length))) rfl rfl (decide_eq_decide.2 (by omega))) rfl rfl rfl rfl rfl rfl ?_
      refine s_y (v := .bool (decide (((msort false (stabL l i)).length) ≠ ((stabL l i).length)))) (y_pickF (v := .bool (decide (((msort false (stabL l i)).length) ≠ ((stabL l i).length)))) rfl rfl rfl) rfl ?_
      refine wpL_nil ?_
      refine thenS_n ?_
      refine wpS_cond_F (t := decide (((msort false (stabL l i)).length) ≠ ((stabL l i).length))) rfl (decide_eq_false (fun h => h (msort_len _ _))) ?_
      refine wpS_skip ?_
      refine thenS_n ?_
      refine wpS_seq ?_
      refine wpS_seq ?_
      refine wpS_region ?_
      refine s_y (v := .int .i64 1) (y_assign rfl) rfl ?_
      refine wpL_nil ?_
      refine thenS_n ?_
      refine wpS_block ?_
      refine wpS_loop (fun m ds σ L => ∃ j : Nat, m = n - j ∧ (1 ≤ j) ∧ ds = [] ∧ σ 5 = .slice a_7 ((msort false (stabL l i)).length) c_8 ∧ σ 6 = .int .i64 (((j : Nat) : Int)) ∧ Ent L [osl a_7 c_8 ((msort false (stabL l i)).length) 4 23 ((msort false (stabL l i)).flatMap recV), osl a1 c1 ((stabL l i).length) 4 23 ((stabL l i).flatMap recV)]) (m0 := n - 1) ⟨1, rfl, by omega, rfl, rfl, rfl, .p .h (.p .h .nil)⟩ ?_
      rintro m ds σ L ⟨j, hm_11, hf0_11, rfl, h5_11, h6_11, hE_11⟩
      refine wpS_ent hE_11 ?_; clear hE_11
      have hml := msort_len false (stabL l i)
      refine wpS_seq ?_
      refine wpS_seq ?_
      refine wpS_region ?_
      refine s_y (v := .int .i64 (((j : Nat) : Int))) (y_move h6_11) rfl ?_
      refine s_y (v := .slice a_7 ((msort false (stabL l i)).length) c_8) (y_move h5_11) rfl ?_
      refine s_y (v := .int .i64 ((((msort false (stabL l i)).length : Nat) : Int))) (y_len (ty' := 0) (at_ := #[]) rfl Try.underlying69) rfl ?_
      refine s_y (v := .bool (decide (j < ((msort false (stabL l i)).length)))) (y_lss (a := ((j : Nat) : Int)) (b := (((msort false (stabL l i)).length : Nat) : Int)) (c := decide (j < ((msort false (stabL l i)).length))) rfl rfl (decide_eq_decide.2 (by omega))) rfl ?_
      refine wpL_nil ?_
      refine thenS_n ?_
      refine wpS_cond (t := decide (j < ((msort false (stabL l i)).length))) rfl (fun b12 => ?_) (fun b12 => ?_)
      · -- decide (j < ((msort false (stabL l i)).length)) true
        have p12 := of_decide_eq_true b12
        refine wpS_skip ?_
        refine thenS_n ?_
        refine wpS_seq ?_
        refine wpS_block ?_
        refine wpS_seq ?_
        refine wpS_lex (by kernel_rfl) (by kernel_rfl) ?_
        refine x_y (v := .slice a_7 ((msort false (stabL l i)).length) c_8) (y_move h5_11) rfl ?_
        refine x_y (v := .int .i64 (((j : Nat) : Int))) (y_move h6_11) rfl ?_
        refine x_y (v := .pointer (some ⟨aB a_7, aO a_7 + j * 4, none⟩)) (y_idx (o := j * 4) rfl rfl Try.underlying69 Try.sizeOf23 (oslR .h) (fl_len recV_len _) (by decide) (by omega) (by omega) (by omega)) rfl ?_
        refine x_y (v := .pointer (some ⟨aB a_7, aO a_7 + j * 4 + 1, none⟩)) (y_fieldAddr (o' := aO a_7 + j * 4 + 1) rfl Try.underlying23 rfl Try.sizeOf2 (by decide) rfl) rfl ?_
        refine x_y (v := .int .i64 ((((msort false (stabL l i)).getD j default).key).toInt)) (y_load1 (v := .int .i64 ((((msort false (stabL l i)).getD j default).key).toInt)) rfl Try.isAgg2 (rd1 (k := j * 4 + 1) (oslR .h) (fl_get1 (f := 1) recV_len (msort false (stabL l i)) j (by first | omega | (simp only [List.length_set, List.length_take, List.length_drop]; done) | (simp only [List.length_set, List.length_take, List.length_drop]; omega)) rfl))) rfl ?_
        refine x_y (v := .slice a_7 ((msort false (stabL l i)).length) c_8) (y_move h5_11) rfl ?_
        refine x_y (v := .int .i64 (((j : Nat) : Int))) (y_move h6_11) rfl ?_
        refine x_y (v := .int .i64 ((((j - 1) : Nat) : Int))) (y_sub (a := ((j : Nat) : Int)) (b := 1) (c := (((j - 1) : Nat) : Int)) rfl rfl (wI (by omega) (by omega) (by omega))) rfl ?_
        refine x_y (v := .pointer (some ⟨aB a_7, aO a_7 + (j - 1) * 4, none⟩)) (y_idx (o := (j - 1) * 4) rfl rfl Try.underlying69 Try.sizeOf23 (oslR .h) (fl_len recV_len _) (by decide) (by omega) (by omega) (by omega)) rfl ?_
        refine x_y (v := .pointer (some ⟨aB a_7, aO a_7 + (j - 1) * 4 + 1, none⟩)) (y_fieldAddr (o' := aO a_7 + (j - 1) * 4 + 1) rfl Try.underlying23 rfl Try.sizeOf2 (by decide) rfl) rfl ?_
        refine x_y (v := .int .i64 ((((msort false (stabL l i)).getD (j - 1) default).key).toInt)) (y_load1 (v := .int .i64 ((((msort false (stabL l i)).getD (j - 1) default).key).toInt)) rfl Try.isAgg2 (rd1 (k := (j - 1) * 4 + 1) (oslR .h) (fl_get1 (f := 1) recV_len (msort false (stabL l i)) (j - 1) (by first | omega | (simp only [List.length_set, List.length_take, List.length_drop]; done) | (simp only [List.length_set, List.length_take, List.length_drop]; omega)) rfl))) rfl ?_
        refine x_y (v := .bool (decide ((((msort false (stabL l i)).getD j default).key) < (((msort false (stabL l i)).getD (j - 1) default).key)))) (y_lss (a := (((msort false (stabL l i)).getD j default).key).toInt) (b := (((msort false (stabL l i)).getD (j - 1) default).key).toInt) (c := decide ((((msort false (stabL l i)).getD j default).key) < (((msort false (stabL l i)).getD (j - 1) default).key))) rfl rfl (i_lss _ _)) rfl ?_
        refine x_y (v := .bool (decide ((((msort false (stabL l i)).getD j default).key) < (((msort false (stabL l i)).getD (j - 1) default).key)))) (y_move rfl) rfl ?_
        refine x_gy (y_move h5_11) rfl rfl rfl rfl (b' := decide ((((msort false (stabL l i)).getD j default).key) < (((msort false (stabL l i)).getD (j - 1) default).key))) rfl (stab_key l i j (by omega) (by omega)) ?_
        refine x_gy (y_move h6_11) rfl rfl rfl rfl (b' := decide ((((msort false (stabL l i)).getD j default).key) < (((msort false (stabL l i)).getD (j - 1) default).key))) rfl (stab_key l i j (by omega) (by omega)) ?_
        refine x_gy (y_idx (o := j * 4) rfl rfl Try.underlying69 Try.sizeOf23 (oslR .h) (fl_len recV_len _) (by decide) (by omega) (by omega) (by omega)) rfl rfl rfl rfl (b' := decide ((((msort false (stabL l i)).getD j default).key) < (((msort false (stabL l i)).getD (j - 1) default).key))) rfl (stab_key l i j (by omega) (by omega)) ?_
        refine x_gy (y_fieldAddr (o' := aO a_7 + j * 4 + 1) rfl Try.underlying23 rfl Try.sizeOf2 (by decide) rfl) rfl rfl rfl rfl (b' := decide ((((msort false (stabL l i)).getD j default).key) < (((msort false (stabL l i)).getD (j - 1) default).key))) rfl (stab_key l i j (by omega) (by omega)) ?_
        refine x_gy (y_load1 (v := .int .i64 ((((msort false (stabL l i)).getD j default).key).toInt)) rfl Try.isAgg2 (rd1 (k := j * 4 + 1) (oslR .h) (fl_get1 (f := 1) recV_len (msort false (stabL l i)) j (by first | omega | (simp only [List.length_set, List.length_take, List.length_drop]; done) | (simp only [List.length_set, List.length_take, List.length_drop]; omega)) rfl))) rfl rfl rfl rfl (b' := decide ((((msort false (stabL l i)).getD j default).key) < (((msort false (stabL l i)).getD (j - 1) default).key))) rfl (stab_key l i j (by omega) (by omega)) ?_
        refine x_gy (y_move h5_11) rfl rfl rfl rfl (b' := decide ((((msort false (stabL l i)).getD j default).key) < (((msort false (stabL l i)).getD (j - 1) default).key))) rfl (stab_key l i j (by omega) (by omega)) ?_
        refine x_gy (y_move h6_11) rfl rfl rfl rfl (b' := decide ((((msort false (stabL l i)).getD j default).key) < (((msort false (stabL l i)).getD (j - 1) default).key))) rfl (stab_key l i j (by omega) (by omega)) ?_
        refine x_gy (y_sub (a := ((j : Nat) : Int)) (b := 1) (c := (((j - 1) : Nat) : Int)) rfl rfl (wI (by omega) (by omega) (by omega))) rfl rfl rfl rfl (b' := decide ((((msort false (stabL l i)).getD j default).key) < (((msort false (stabL l i)).getD (j - 1) default).key))) rfl (stab_key l i j (by omega) (by omega)) ?_
        refine x_gy (y_idx (o := (j - 1) * 4) rfl rfl Try.underlying69 Try.sizeOf23 (oslR .h) (fl_len recV_len _) (by decide) (by omega) (by omega) (by omega)) rfl rfl rfl rfl (b' := decide ((((msort false (stabL l i)).getD j default).key) < (((msort false (stabL l i)).getD (j - 1) default).key))) rfl (stab_key l i j (by omega) (by omega)) ?_
        refine x_gy (y_fieldAddr (o' := aO a_7 + (j - 1) * 4 + 1) rfl Try.underlying23 rfl Try.sizeOf2 (by decide) rfl) rfl rfl rfl rfl (b' := decide ((((msort false (stabL l i)).getD j default).key) < (((msort false (stabL l i)).getD (j - 1) default).key))) rfl (stab_key l i j (by omega) (by omega)) ?_
        refine x_gy (y_load1 (v := .int .i64 ((((msort false (stabL l i)).getD (j - 1) default).key).toInt)) rfl Try.isAgg2 (rd1 (k := (j - 1) * 4 + 1) (oslR .h) (fl_get1 (f := 1) recV_len (msort false (stabL l i)) (j - 1) (by first | omega | (simp only [List.length_set, List.length_take, List.length_drop]; done) | (simp only [List.length_set, List.length_take, List.length_drop]; omega)) rfl))) rfl rfl rfl rfl (b' := decide ((((msort false (stabL l i)).getD j default).key) < (((msort false (stabL l i)).getD (j - 1) default).key))) rfl (stab_key l i j (by omega) (by omega)) ?_
        refine x_gy (y_eql (a := (((msort false (stabL l i)).getD j default).key).toInt) (b := (((msort false (stabL l i)).getD (j - 1) default).key).toInt) (c := decide ((((msort false (stabL l i)).getD j default).key) = (((msort false (stabL l i)).getD (j - 1) default).key))) rfl rfl (i_eql _ _)) rfl rfl rfl rfl (b' := decide ((((msort false (stabL l i)).getD j default).key) < (((msort false (stabL l i)).getD (j - 1) default).key))) rfl (stab_key l i j (by omega) (by omega)) ?_
        refine x_gy (y_move rfl) rfl rfl rfl rfl (b' := decide ((((msort false (stabL l i)).getD j default).key) < (((msort false (stabL l i)).getD (j - 1) default).key))) rfl (stab_key l i j (by omega) (by omega)) ?_
        rcases Bool.eq_false_or_eq_true (decide ((((msort false (stabL l i)).getD j default).key) = (((msort false (stabL l i)).getD (j - 1) default).key))) with b13 | b13
        · -- decide ((((msort false (stabL l i)).getD j default).key) = (((msort false (stabL l i)).getD (j - 1) default).key)) True
          have p13 := of_decide_eq_true b13
          refine x_gy (y_move h5_11) rfl rfl rfl rfl (b' := decide ((((msort false (stabL l i)).getD j default).key) = (((msort false (stabL l i)).getD (j - 1) default).key))) rfl b13 ?_
          refine x_gy (y_move h6_11) rfl rfl rfl rfl (b' := decide ((((msort false (stabL l i)).getD j default).key) = (((msort false (stabL l i)).getD (j - 1) default).key))) rfl b13 ?_
          refine x_gy (y_idx (o := j * 4) rfl rfl Try.underlying69 Try.sizeOf23 (oslR .h) (fl_len recV_len _) (by decide) (by omega) (by omega) (by omega)) rfl rfl rfl rfl (b' := decide ((((msort false (stabL l i)).getD j default).key) = (((msort false (stabL l i)).getD (j - 1) default).key))) rfl b13 ?_
          refine x_gy (y_fieldAddr (o' := aO a_7 + j * 4 + 2) rfl Try.underlying23 rfl Try.sizeOf2 (by decide) rfl) rfl rfl rfl rfl (b' := decide ((((msort false (stabL l i)).getD j default).key) = (((msort false (stabL l i)).getD (j - 1) default).key))) rfl b13 ?_
          refine x_gy (y_load1 (v := .int .i64 ((((msort false (stabL l i)).getD j default).value).toInt)) rfl Try.isAgg2 (rd1 (k := j * 4 + 2) (oslR .h) (fl_get1 (f := 2) recV_len (msort false (stabL l i)) j (by first | omega | (simp only [List.length_set, List.length_take, List.length_drop]; done) | (simp only [List.length_set, List.length_take, List.length_drop]; omega)) rfl))) rfl rfl rfl rfl (b' := decide ((((msort false (stabL l i)).getD j default).key) = (((msort false (stabL l i)).getD (j - 1) default).key))) rfl b13 ?_
          refine x_gy (y_move h5_11) rfl rfl rfl rfl (b' := decide ((((msort false (stabL l i)).getD j default).key) = (((msort false (stabL l i)).getD (j - 1) default).key))) rfl b13 ?_
          refine x_gy (y_move h6_11) rfl rfl rfl rfl (b' := decide ((((msort false (stabL l i)).getD j default).key) = (((msort false (stabL l i)).getD (j - 1) default).key))) rfl b13 ?_
          refine x_gy (y_sub (a := ((j : Nat) : Int)) (b := 1) (c := (((j - 1) : Nat) : Int)) rfl rfl (wI (by omega) (by omega) (by omega))) rfl rfl rfl rfl (b' := decide ((((msort false (stabL l i)).getD j default).key) = (((msort false (stabL l i)).getD (j - 1) default).key))) rfl b13 ?_
          refine x_gy (y_idx (o := (j - 1) * 4) rfl rfl Try.underlying69 Try.sizeOf23 (oslR .h) (fl_len recV_len _) (by decide) (by omega) (by omega) (by omega)) rfl rfl rfl rfl (b' := decide ((((msort false (stabL l i)).getD j default).key) = (((msort false (stabL l i)).getD (j - 1) default).key))) rfl b13 ?_
          refine x_gy (y_fieldAddr (o' := aO a_7 + (j - 1) * 4 + 2) rfl Try.underlying23 rfl Try.sizeOf2 (by decide) rfl) rfl rfl rfl rfl (b' := decide ((((msort false (stabL l i)).getD j default).key) = (((msort false (stabL l i)).getD (j - 1) default).key))) rfl b13 ?_
          refine x_gy (y_load1 (v := .int .i64 ((((msort false (stabL l i)).getD (j - 1) default).value).toInt)) rfl Try.isAgg2 (rd1 (k := (j - 1) * 4 + 2) (oslR .h) (fl_get1 (f := 2) recV_len (msort false (stabL l i)) (j - 1) (by first | omega | (simp only [List.length_set, List.length_take, List.length_drop]; done) | (simp only [List.length_set, List.length_take, List.length_drop]; omega)) rfl))) rfl rfl rfl rfl (b' := decide ((((msort false (stabL l i)).getD j default).key) = (((msort false (stabL l i)).getD (j - 1) default).key))) rfl b13 ?_
          refine x_gy (y_lss (a := (((msort false (stabL l i)).getD j default).value).toInt) (b := (((msort false (stabL l i)).getD (j - 1) default).value).toInt) (c := decide ((((msort false (stabL l i)).getD j default).value) < (((msort false (stabL l i)).getD (j - 1) default).value))) rfl rfl (i_lss _ _)) rfl rfl rfl rfl (b' := decide ((((msort false (stabL l i)).getD j default).key) = (((msort false (stabL l i)).getD (j - 1) default).key))) rfl b13 ?_
          refine x_gy (y_pickT (b := decide ((((msort false (stabL l i)).getD j default).key) = (((msort false (stabL l i)).getD (j - 1) default).key))) (v := .bool (decide ((((msort false (stabL l i)).getD j default).value) < (((msort false (stabL l i)).getD (j - 1) default).value)))) rfl b13 rfl) rfl rfl rfl rfl (b' := decide ((((msort false (stabL l i)).getD j default).key) < (((msort false (stabL l i)).getD (j - 1) default).key))) rfl (stab_key l i j (by omega) (by omega)) ?_
          refine x_y (v := .bool (decide ((((msort false (stabL l i)).getD j default).value) < (((msort false (stabL l i)).getD (j - 1) default).value)))) (y_pickF (b := decide ((((msort false (stabL l i)).getD j default).key) < (((msort false (stabL l i)).getD (j - 1) default).key))) (v := .bool (decide ((((msort false (stabL l i)).getD j default).value) < (((msort false (stabL l i)).getD (j - 1) default).value)))) rfl (stab_key l i j (by omega) (by omega)) rfl) rfl ?_
          refine x_nil ?_
          refine thenS_n ?_
          refine wpS_cond_F (t := decide ((((msort false (stabL l i)).getD j default).value) < (((msort false (stabL l i)).getD (j - 1) default).value))) rfl (stab_val l i j (by omega) (by omega) (by omega) b13) ?_
          refine wpS_skip ?_
          refine blockS_n ?_
          refine thenS_n ?_
          refine wpS_region ?_
          refine s_y (v := .int .i64 (((j : Nat) : Int))) (y_move h6_11) rfl ?_
          refine s_y (v := .int .i64 ((((j + 1) : Nat) : Int))) (y_add (a := ((j : Nat) : Int)) (b := 1) (c := (((j + 1) : Nat) : Int)) rfl rfl (wI (by omega) (by omega) (by omega))) rfl ?_
          refine s_y (v := .int .i64 ((((j + 1) : Nat) : Int))) (y_assign rfl) rfl ?_
          refine wpL_nil ?_
          refine thenS_n ?_
          exact ⟨_, by omega, ⟨(j + 1), rfl, by omega, rfl, h5_11, rfl, .p .h (.p .h .nil)⟩⟩
        · -- decide ((((msort false (stabL l i)).getD j default).key) = (((msort false (stabL l i)).getD (j - 1) default).key)) False
          have p13 := of_decide_eq_false b13
          refine x_no rfl rfl rfl rfl (b' := decide ((((msort false (stabL l i)).getD j default).key) = (((msort false (stabL l i)).getD (j - 1) default).key))) rfl b13 ?_
          refine x_no rfl rfl rfl rfl (b' := decide ((((msort false (stabL l i)).getD j default).key) = (((msort false (stabL l i)).getD (j - 1) default).key))) rfl b13 ?_
          refine x_no rfl rfl rfl rfl (b' := decide ((((msort false (stabL l i)).getD j default).key) = (((msort false (stabL l i)).getD (j - 1) default).key))) rfl b13 ?_
          refine x_no rfl rfl rfl rfl (b' := decide ((((msort false (stabL l i)).getD j default).key) = (((msort false (stabL l i)).getD (j - 1) default).key))) rfl b13 ?_
          refine x_no rfl rfl rfl rfl (b' := decide ((((msort false (stabL l i)).getD j default).key) = (((msort false (stabL l i)).getD (j - 1) default).key))) rfl b13 ?_
          refine x_no rfl rfl rfl rfl (b' := decide ((((msort false (stabL l i)).getD j default).key) = (((msort false (stabL l i)).getD (j - 1) default).key))) rfl b13 ?_
          refine x_no rfl rfl rfl rfl (b' := decide ((((msort false (stabL l i)).getD j default).key) = (((msort false (stabL l i)).getD (j - 1) default).key))) rfl b13 ?_
          refine x_no rfl rfl rfl rfl (b' := decide ((((msort false (stabL l i)).getD j default).key) = (((msort false (stabL l i)).getD (j - 1) default).key))) rfl b13 ?_
          refine x_no rfl rfl rfl rfl (b' := decide ((((msort false (stabL l i)).getD j default).key) = (((msort false (stabL l i)).getD (j - 1) default).key))) rfl b13 ?_
          refine x_no rfl rfl rfl rfl (b' := decide ((((msort false (stabL l i)).getD j default).key) = (((msort false (stabL l i)).getD (j - 1) default).key))) rfl b13 ?_
          refine x_no rfl rfl rfl rfl (b' := decide ((((msort false (stabL l i)).getD j default).key) = (((msort false (stabL l i)).getD (j - 1) default).key))) rfl b13 ?_
          refine x_no rfl rfl rfl rfl (b' := decide ((((msort false (stabL l i)).getD j default).key) = (((msort false (stabL l i)).getD (j - 1) default).key))) rfl b13 ?_
          refine x_gy (y_pickF (b := decide ((((msort false (stabL l i)).getD j default).key) = (((msort false (stabL l i)).getD (j - 1) default).key))) (v := .bool false) rfl b13 rfl) rfl rfl rfl rfl (b' := decide ((((msort false (stabL l i)).getD j default).key) < (((msort false (stabL l i)).getD (j - 1) default).key))) rfl (stab_key l i j (by omega) (by omega)) ?_
          refine x_y (v := .bool false) (y_pickF (b := decide ((((msort false (stabL l i)).getD j default).key) < (((msort false (stabL l i)).getD (j - 1) default).key))) (v := .bool false) rfl (stab_key l i j (by omega) (by omega)) rfl) rfl ?_
          refine x_nil ?_
          refine thenS_n ?_
          refine wpS_cond_f rfl ?_
          refine wpS_skip ?_
          refine blockS_n ?_
          refine thenS_n ?_
          refine wpS_region ?_
          refine s_y (v := .int .i64 (((j : Nat) : Int))) (y_move h6_11) rfl ?_
          refine s_y (v := .int .i64 ((((j + 1) : Nat) : Int))) (y_add (a := ((j : Nat) : Int)) (b := 1) (c := (((j + 1) : Nat) : Int)) rfl rfl (wI (by omega) (by omega) (by omega))) rfl ?_
          refine s_y (v := .int .i64 ((((j + 1) : Nat) : Int))) (y_assign rfl) rfl ?_
          refine wpL_nil ?_
          refine thenS_n ?_
          exact ⟨_, by omega, ⟨(j + 1), rfl, by omega, rfl, h5_11, rfl, .p .h (.p .h .nil)⟩⟩
      · -- decide (j < ((msort false (stabL l i)).length)) false
        have p12 := of_decide_eq_false b12
        refine wpS_exit ?_
        refine thenS_x ?_
        refine thenS_x ?_
        refine blockS_h ?_
        refine thenS_n ?_
        refine wpS_seq ?_
        refine wpS_region ?_
        refine s_y (v := .bool true) (y_assign rfl) rfl ?_
        refine wpL_nil ?_
        refine thenS_n ?_
        refine wpS_ret ?_
        refine fin1 (v := .bool true) (.inr rfl) (.nil) Try.results15 rfl ?_
        exact fun w' hs => ⟨rfl, hs⟩

end Go.Proofs.Ytldkjjnjdjfipaa
