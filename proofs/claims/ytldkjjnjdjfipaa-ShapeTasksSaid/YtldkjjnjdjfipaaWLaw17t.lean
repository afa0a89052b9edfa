/- ShapeTasks, walked. -/
import Derived.Test.YtldkjjnjdjfipaaWTsk2
import Derived.Test.YtldkjjnjdjfipaaWTsk3
namespace Go.Proofs.Ytldkjjnjdjfipaa
open Go Go.RowKit
set_option linter.unusedVariables false
set_option linter.unusedSimpArgs false
set_option maxRecDepth 10000
set_option maxHeartbeats 1000000

theorem ids_at {N k : Nat} (h : k < ((List.range N).map fun k => ((k : Nat) : Int)).length) : ((List.range N).map fun k => ((k : Nat) : Int)).getD k default = ((k : Nat) : Int) := by
  simp at h
  simp [List.getD_eq_getElem?_getD, h]
theorem few_8 (p : Par) : sl (few p) ≤ 8 := by
  cases h : ok (few p)
  · rw [sl_no h]; omega
  · have h1 := few_sl h
    generalize sl (few p) = n at h1
    simp at h1
    omega
theorem ref_len (p : Par) : (refT (few p)).length = cnt (few p) := by rw [← few_tasks]; simp [tasksL]

theorem tasks_law (p : Par) (x : Int) (x1 : -9223372036854775808 ≤ x) (x2 : x < 9223372036854775808) (w : World) : Pure Try.prog 29 #[.agg #[.int .i64 (p.n0), .int .i64 (p.n1), .int .i64 (p.n2), .int .i64 (p.n3)], .int .i64 x] w (.bool true) := by
  refine calls_S (n := 79) (σ0 := (upd (upd fr0 0 (.agg #[.int .i64 (p.n0), .int .i64 (p.n1), .int .i64 (p.n2), .int .i64 (p.n3)])) 1 (.int .i64 x))) (D := []) (A := []) Try.func29 rfl Try.ntmps29 rfl (a2_fr _ _) (SH.start w) ?_
  have h8 := few_8 p
  have hrl := ref_len p
  have hcl := cnt_le p
  have htl : (tasksL (few p)).length = cnt (few p) := by simp [tasksL]
  have hil : ((List.range (cnt (few p))).map fun k => ((k : Nat) : Int)).length = cnt (few p) := by simp
  have hml : u64of x % ((refT (few p)).length + 1) < (refT (few p)).length + 1 := Nat.mod_lt _ (Nat.succ_pos _)
  refine wpS_seq ?_
  refine wpS_region ?_
  refine s_e rfl ?_
  refine e_box (v := .agg #[.int .i64 (p.n0), .int .i64 (p.n1), .int .i64 (p.n2), .int .i64 (p.n3)]) (l := [.int .i64 (p.n0), .int .i64 (p.n1), .int .i64 (p.n2), .int .i64 (p.n3)]) rfl rfl ?_
  intro b_1
  refine s_y (v := .bool false) (y_assign rfl) rfl ?_
  refine wpL_nil ?_
  refine thenS_n ?_
  refine wpS_seq ?_
  refine wpS_region ?_
  refine s_y (v := .agg #[.int .i64 (p.n0), .int .i64 (p.n1), .int .i64 (p.n2), .int .i64 (p.n3)]) (y_loadN (vs := [.int .i64 (p.n0), .int .i64 (p.n1), .int .i64 (p.n2), .int .i64 (p.n3)]) rfl Try.isAgg53 Try.sizeOf53 (ownN .h rfl)) rfl ?_
  refine s_y (v := .agg #[.int .i64 ((few p).n0), .int .i64 ((few p).n1), .int .i64 ((few p).n2), .int .i64 ((few p).n3)]) (y_call (args := #[.agg #[.int .i64 (p.n0), .int .i64 (p.n1), .int .i64 (p.n2), .int .i64 (p.n3)]]) (v := .agg #[.int .i64 ((few p).n0), .int .i64 ((few p).n1), .int .i64 ((few p).n2), .int .i64 ((few p).n3)]) Try.call62 (ev1 rfl) (fun w hs => few_c p w)) rfl ?_
  refine s_e0 ?_
  refine e_store (vs := [.int .i64 ((few p).n0), .int .i64 ((few p).n1), .int .i64 ((few p).n2), .int .i64 ((few p).n3)]) (l' := [.int .i64 ((few p).n0), .int .i64 ((few p).n1), .int .i64 ((few p).n2), .int .i64 ((few p).n3)]) rfl rfl rfl rfl Try.sizeOf53 .h (Nat.le_of_ble_eq_true rfl) rfl ?_
  refine wpL_nil ?_
  refine thenS_n ?_
  refine wpS_seq ?_
  refine wpS_region ?_
  refine s_y (v := .agg #[.int .i64 ((few p).n0), .int .i64 ((few p).n1), .int .i64 ((few p).n2), .int .i64 ((few p).n3)]) (y_loadN (vs := [.int .i64 ((few p).n0), .int .i64 ((few p).n1), .int .i64 ((few p).n2), .int .i64 ((few p).n3)]) rfl Try.isAgg53 Try.sizeOf53 (ownN .h rfl)) rfl ?_
  refine s_e rfl ?_
  refine e_call (f := 96) (args := #[.agg #[.int .i64 ((few p).n0), .int .i64 ((few p).n1), .int .i64 ((few p).n2), .int .i64 ((few p).n3)]]) (X := Nat) (A := []) (M := [cel b_1 53 [.int .i64 ((few p).n0), .int .i64 ((few p).n1), .int .i64 ((few p).n2), .int .i64 ((few p).n3)]]) (V := fun x : Nat => .func (.func 182) #[] #[.pointer (some ⟨x, 0, none⟩)]) (A' := fun x : Nat => [cel x 53 [.int .i64 ((few p).n0), .int .i64 ((few p).n1), .int .i64 ((few p).n2), .int .i64 ((few p).n3)]]) (C := fun _ => True) Try.call96 (ev1 rfl) (.p .h .nil) (fun w hs => tasks_c (few p) w) ?_
  rintro b_2 -
  refine s_y (v := .func (.func 182) #[] #[.pointer (some ⟨b_2, 0, none⟩)]) (y_assign rfl) rfl ?_
  refine wpL_nil ?_
  refine thenS_n ?_
  refine wpS_seq ?_
  refine wpS_region ?_
  refine s_y (v := .agg #[.int .i64 ((few p).n0), .int .i64 ((few p).n1), .int .i64 ((few p).n2), .int .i64 ((few p).n3)]) (y_loadN (vs := [.int .i64 ((few p).n0), .int .i64 ((few p).n1), .int .i64 ((few p).n2), .int .i64 ((few p).n3)]) rfl Try.isAgg53 Try.sizeOf53 (ownN (.t .h) rfl)) rfl ?_
  refine s_e rfl ?_
  refine e_call (f := 97) (args := #[.agg #[.int .i64 ((few p).n0), .int .i64 ((few p).n1), .int .i64 ((few p).n2), .int .i64 ((few p).n3)]]) (X := Option Addr × Nat) (A := []) (M := [cel b_2 53 [.int .i64 ((few p).n0), .int .i64 ((few p).n1), .int .i64 ((few p).n2), .int .i64 ((few p).n3)], cel b_1 53 [.int .i64 ((few p).n0), .int .i64 ((few p).n1), .int .i64 ((few p).n2), .int .i64 ((few p).n3)]]) (V := slV (refT (few p))) (A' := fun x => [slR taskV 5 120 (refT (few p)) x]) (C := fun _ => True) Try.call97 (ev1 rfl) (.p .h (.p .h .nil)) (fun w hs => rtasks_c (few p) h8 w) ?_
  rintro ⟨a_3, c_4⟩ -
  refine s_y (v := .slice a_3 ((refT (few p)).length) c_4) (y_assign rfl) rfl ?_
  refine wpL_nil ?_
  refine thenS_n ?_
  refine wpS_seq ?_
  refine wpS_seq ?_
  refine wpS_region ?_
  refine s_y (v := .int .i64 0) (y_assign rfl) rfl ?_
  refine wpL_nil ?_
  refine thenS_n ?_
  refine wpS_block ?_
  refine wpS_loop (fun mez ds σ L => ∃ i : Nat, mez = 2 - i ∧ (i ≤ 2) ∧ ds = [] ∧ σ 1 = .int .i64 x ∧ σ 2 = .pointer (some ⟨b_1, 0, none⟩) ∧ σ 5 = .func (.func 182) #[] #[.pointer (some ⟨b_2, 0, none⟩)] ∧ σ 6 = .slice a_3 ((refT (few p)).length) c_4 ∧ σ 7 = .int .i64 (((i : Nat) : Int)) ∧ Ent L [osl a_3 c_4 ((refT (few p)).length) 5 120 ((refT (few p)).flatMap taskV), cel b_2 53 [.int .i64 ((few p).n0), .int .i64 ((few p).n1), .int .i64 ((few p).n2), .int .i64 ((few p).n3)], cel b_1 53 [.int .i64 ((few p).n0), .int .i64 ((few p).n1), .int .i64 ((few p).n2), .int .i64 ((few p).n3)]]) (m0 := 2 - 0) ⟨0, rfl, by omega, rfl, rfl, rfl, rfl, rfl, rfl, .p .h (.p .h (.p .h .nil))⟩ ?_
  rintro mez ds σ L ⟨i, hm_5, hf0_5, rfl, h1_5, h2_5, h5_5, h6_5, h7_5, hE_5⟩
  refine wpS_ent hE_5 ?_; clear hE_5
  refine wpS_seq ?_
  refine wpS_seq ?_
  refine wpS_region ?_
  refine s_y (v := .int .i64 (((i : Nat) : Int))) (y_move h7_5) rfl ?_
  refine s_y (v := .bool (decide ((i : Nat) < 2))) (y_lss (a := ((i : Nat) : Int)) (b := 2) (c := decide ((i : Nat) < 2)) rfl rfl (decide_eq_decide.2 (by omega))) rfl ?_
  refine wpL_nil ?_
  refine thenS_n ?_
  refine wpS_cond (t := decide ((i : Nat) < 2)) rfl (fun b6 => ?_) (fun b6 => ?_)
  · -- decide ((i : Nat) < 2) true
    have p6 := of_decide_eq_true b6
    refine wpS_skip ?_
    refine thenS_n ?_
    refine wpS_seq ?_
    refine wpS_block ?_
    refine wpS_seq ?_
    refine wpS_region ?_
    refine s_y (v := .func (.func 182) #[] #[.pointer (some ⟨b_2, 0, none⟩)]) (y_move h5_5) rfl ?_
    refine s_y (v := .slice a_3 ((refT (few p)).length) c_4) (y_move h6_5) rfl ?_
    refine s_y (v := .int .i64 ((((refT (few p)).length : Nat) : Int))) (y_len (ty' := 0) (at_ := #[]) rfl Try.underlying115) rfl ?_
    refine s_e rfl ?_
    refine e_call (f := 98) (args := #[.func (.func 182) #[] #[.pointer (some ⟨b_2, 0, none⟩)], .int .i64 ((((refT (few p)).length : Nat) : Int))]) (X := (Option Addr × Nat) × (Option Addr × Nat)) (A := []) (M := [osl a_3 c_4 ((refT (few p)).length) 5 120 ((refT (few p)).flatMap taskV), cel b_2 53 [.int .i64 ((few p).n0), .int .i64 ((few p).n1), .int .i64 ((few p).n2), .int .i64 ((few p).n3)], cel b_1 53 [.int .i64 ((few p).n0), .int .i64 ((few p).n1), .int .i64 ((few p).n2), .int .i64 ((few p).n3)]]) (V := fun x => .tuple #[slV ((List.range (cnt (few p))).map fun k => ((k : Nat) : Int)) x.1, slV (tasksL (few p)) x.2, .bool true]) (A' := fun x => [slR intV 1 3 ((List.range (cnt (few p))).map fun k => ((k : Nat) : Int)) x.1, slR taskV 5 120 (tasksL (few p)) x.2]) (C := fun _ => True) Try.call98 (ev2 rfl rfl) (.p .h (.p .h (.p .h .nil))) (fun w hs => seq2tk_c b_2 (few p) (((refT (few p)).length : Nat) : Int) w (celR (.t .h) w hs) (by omega) (by omega)) ?_
    rintro ⟨⟨a_7, c_8⟩, ⟨a_9, c_10⟩⟩ -
    refine s_y (v := .tuple #[.slice a_7 (((List.range (cnt (few p))).map fun k => ((k : Nat) : Int)).length) c_8, .slice a_9 ((tasksL (few p)).length) c_10, .bool true]) (y_move rfl) rfl ?_
    refine s_y (v := .slice a_7 (((List.range (cnt (few p))).map fun k => ((k : Nat) : Int)).length) c_8) (y_extract (v := .slice a_7 (((List.range (cnt (few p))).map fun k => ((k : Nat) : Int)).length) c_8) rfl rfl) rfl ?_
    refine s_y (v := .slice a_9 ((tasksL (few p)).length) c_10) (y_extract (v := .slice a_9 ((tasksL (few p)).length) c_10) rfl rfl) rfl ?_
    refine s_y (v := .bool true) (y_extract (v := .bool true) rfl rfl) rfl ?_
    refine s_y (v := .slice a_7 (((List.range (cnt (few p))).map fun k => ((k : Nat) : Int)).length) c_8) (y_assign rfl) rfl ?_
    refine s_y (v := .slice a_9 ((tasksL (few p)).length) c_10) (y_assign rfl) rfl ?_
    refine s_y (v := .bool true) (y_assign rfl) rfl ?_
    refine wpL_nil ?_
    refine thenS_n ?_
    refine wpS_seq ?_
    refine wpS_seq ?_
    refine wpS_region ?_
    refine s_y (v := .bool true) (y_call (args := #[]) (v := .bool true) Try.call64 ev0 (fun w hs => awake17_c w)) rfl ?_
    refine s_y (v := .bool false) (y_notK (b := true) (c := false) rfl rfl) rfl ?_
    refine s_y (v := .bool false) (y_move rfl) rfl ?_
    refine s_gy (y_move rfl) rfl rfl rfl rfl rfl rfl ?_
    refine s_gy (y_notK (b := true) (c := false) rfl rfl) rfl rfl rfl rfl rfl rfl ?_
    refine s_y (v := .bool false) (y_pickF (v := .bool false) rfl rfl rfl) rfl ?_
    refine s_y (v := .bool false) (y_move rfl) rfl ?_
    refine s_gy (y_move rfl) rfl rfl rfl rfl rfl rfl ?_
    refine s_gy (y_move h6_5) rfl rfl rfl rfl rfl rfl ?_
    refine s_gy (y_call (args := #[.slice a_9 ((tasksL (few p)).length) c_10, .slice a_3 ((refT (few p)).length) c_4]) (v := .bool (decide ((tasksL (few p)) = (refT (few p))))) Try.call99 (ev2 rfl rfl) (fun w hs => plainT_c a_9 a_3 ((tasksL (few p)).length) ((refT (few p)).length) c_10 c_4 (tasksL (few p)) (refT (few p)) w rfl (oslR (.t .h) w hs) (by omega) rfl (oslR (.t (.t .h)) w hs) (by omega))) rfl rfl rfl rfl rfl rfl ?_
    refine s_gy (y_not (b := decide ((tasksL (few p)) = (refT (few p)))) rfl) rfl rfl rfl rfl rfl rfl ?_
    refine s_y (v := .bool (!(decide ((tasksL (few p)) = (refT (few p)))))) (y_pickF (v := .bool (!(decide ((tasksL (few p)) = (refT (few p)))))) rfl rfl rfl) rfl ?_
    refine wpL_nil ?_
    refine thenS_n ?_
    refine wpS_cond_F (t := !(decide ((tasksL (few p)) = (refT (few p))))) rfl (by rw [few_tasks]; simp) ?_
    refine wpS_skip ?_
    refine thenS_n ?_
    refine wpS_seq ?_
    refine wpS_region ?_
    refine s_y (v := .int .i64 0) (y_assign rfl) rfl ?_
    refine wpL_nil ?_
    refine thenS_n ?_
    refine wpS_block ?_
    refine wpS_loop (fun mez ds σ L => ∃ k : Nat, mez = ((List.range (cnt (few p))).map fun k => ((k : Nat) : Int)).length - k ∧ (k ≤ ((List.range (cnt (few p))).map fun k => ((k : Nat) : Int)).length) ∧ ds = [] ∧ σ 1 = .int .i64 x ∧ σ 2 = .pointer (some ⟨b_1, 0, none⟩) ∧ σ 5 = .func (.func 182) #[] #[.pointer (some ⟨b_2, 0, none⟩)] ∧ σ 6 = .slice a_3 ((refT (few p)).length) c_4 ∧ σ 7 = .int .i64 (((i : Nat) : Int)) ∧ σ 8 = .slice a_7 (((List.range (cnt (few p))).map fun k => ((k : Nat) : Int)).length) c_8 ∧ σ 11 = .int .i64 (((k : Nat) : Int)) ∧ σ 34 = .bool true ∧ σ 35 = .bool false ∧ σ 38 = .slice a_9 ((tasksL (few p)).length) c_10 ∧ σ 39 = .slice a_3 ((refT (few p)).length) c_4 ∧ σ 40 = .bool (decide ((tasksL (few p)) = (refT (few p)))) ∧ σ 41 = .bool (!(decide ((tasksL (few p)) = (refT (few p))))) ∧ Ent L [osl a_7 c_8 (((List.range (cnt (few p))).map fun k => ((k : Nat) : Int)).length) 1 3 (((List.range (cnt (few p))).map fun k => ((k : Nat) : Int)).flatMap intV), osl a_9 c_10 ((tasksL (few p)).length) 5 120 ((tasksL (few p)).flatMap taskV), osl a_3 c_4 ((refT (few p)).length) 5 120 ((refT (few p)).flatMap taskV), cel b_2 53 [.int .i64 ((few p).n0), .int .i64 ((few p).n1), .int .i64 ((few p).n2), .int .i64 ((few p).n3)], cel b_1 53 [.int .i64 ((few p).n0), .int .i64 ((few p).n1), .int .i64 ((few p).n2), .int .i64 ((few p).n3)]]) (m0 := ((List.range (cnt (few p))).map fun k => ((k : Nat) : Int)).length - 0) ⟨0, rfl, by omega, rfl, h1_5, h2_5, h5_5, h6_5, h7_5, rfl, rfl, rfl, rfl, rfl, rfl, rfl, rfl, .p .h (.p .h (.p .h (.p .h (.p .h .nil))))⟩ ?_
    rintro mez ds σ L ⟨k, hm_13, hf0_13, rfl, h1_13, h2_13, h5_13, h6_13, h7_13, h8_13, h11_13, h34_13, h35_13, h38_13, h39_13, h40_13, h41_13, hE_13⟩
    refine wpS_ent hE_13 ?_; clear hE_13
    refine wpS_seq ?_
    refine wpS_seq ?_
    refine wpS_region ?_
    refine s_y (v := .int .i64 (((k : Nat) : Int))) (y_move h11_13) rfl ?_
    refine s_y (v := .slice a_7 (((List.range (cnt (few p))).map fun k => ((k : Nat) : Int)).length) c_8) (y_move h8_13) rfl ?_
    refine s_y (v := .int .i64 (((((List.range (cnt (few p))).map fun k => ((k : Nat) : Int)).length : Nat) : Int))) (y_len (ty' := 0) (at_ := #[]) rfl Try.underlying39) rfl ?_
    refine s_y (v := .bool (decide (k < (((List.range (cnt (few p))).map fun k => ((k : Nat) : Int)).length)))) (y_lss (a := ((k : Nat) : Int)) (b := ((((List.range (cnt (few p))).map fun k => ((k : Nat) : Int)).length : Nat) : Int)) (c := decide (k < (((List.range (cnt (few p))).map fun k => ((k : Nat) : Int)).length))) rfl rfl (decide_eq_decide.2 (by omega))) rfl ?_
    refine wpL_nil ?_
    refine thenS_n ?_
    refine wpS_cond (t := decide (k < (((List.range (cnt (few p))).map fun k => ((k : Nat) : Int)).length))) rfl (fun b14 => ?_) (fun b14 => ?_)
    · -- decide (k < (((List.range (cnt (few p))).map fun k => ((k : Nat) : Int)).length)) true
      have p14 := of_decide_eq_true b14
      refine wpS_skip ?_
      refine thenS_n ?_
      refine wpS_seq ?_
      refine wpS_block ?_
      refine wpS_seq ?_
      refine wpS_region ?_
      refine s_y (v := .slice a_7 (((List.range (cnt (few p))).map fun k => ((k : Nat) : Int)).length) c_8) (y_move h8_13) rfl ?_
      refine s_y (v := .int .i64 (((k : Nat) : Int))) (y_move h11_13) rfl ?_
      refine s_y (v := .pointer (some ⟨aB a_7, aO a_7 + k * 1, none⟩)) (y_idx (o := k * 1) rfl rfl Try.underlying39 Try.sizeOf3 (oslR .h) (fl_len intV_len _) (by decide) (by omega) (by omega) (by omega)) rfl ?_
      refine s_y (v := .int .i64 ((((List.range (cnt (few p))).map fun k => ((k : Nat) : Int)).getD k default))) (y_load1 (v := .int .i64 ((((List.range (cnt (few p))).map fun k => ((k : Nat) : Int)).getD k default))) rfl Try.isAgg3 (rd1 (k := k * 1) (oslR .h) (fl_get0 intV_len ((List.range (cnt (few p))).map fun k => ((k : Nat) : Int)) k (by first | omega | (simp only [List.length_set, List.length_take, List.length_drop]; done) | (simp only [List.length_set, List.length_take, List.length_drop]; omega)) rfl))) rfl ?_
      refine s_y (v := .int .i64 (((k : Nat) : Int))) (y_move h11_13) rfl ?_
      refine s_y (v := .bool (decide (((((List.range (cnt (few p))).map fun k => ((k : Nat) : Int)).getD k default) : Int) ≠ ((k : Nat) : Int)))) (y_neq (a := (((List.range (cnt (few p))).map fun k => ((k : Nat) : Int)).getD k default)) (b := ((k : Nat) : Int)) rfl rfl rfl) rfl ?_
      refine wpL_nil ?_
      refine thenS_n ?_
      refine wpS_cond_F (t := decide (((((List.range (cnt (few p))).map fun k => ((k : Nat) : Int)).getD k default) : Int) ≠ ((k : Nat) : Int))) rfl (decide_eq_false (fun h => h (ids_at (by omega)))) ?_
      refine wpS_skip ?_
      refine blockS_n ?_
      refine thenS_n ?_
      refine wpS_region ?_
      refine s_y (v := .int .i64 (((k : Nat) : Int))) (y_move h11_13) rfl ?_
      refine s_y (v := .int .i64 ((((k + 1) : Nat) : Int))) (y_add (a := ((k : Nat) : Int)) (b := 1) (c := (((k + 1) : Nat) : Int)) rfl rfl (wI (by omega) (by omega) (by omega))) rfl ?_
      refine s_y (v := .int .i64 ((((k + 1) : Nat) : Int))) (y_assign rfl) rfl ?_
      refine wpL_nil ?_
      refine thenS_n ?_
      exact ⟨_, by omega, ⟨(k + 1), rfl, by omega, rfl, h1_13, h2_13, h5_13, h6_13, h7_13, h8_13, rfl, h34_13, h35_13, h38_13, h39_13, h40_13, h41_13, .p .h (.p .h (.p .h (.p .h (.p .h .nil))))⟩⟩
    · -- decide (k < (((List.range (cnt (few p))).map fun k => ((k : Nat) : Int)).length)) false
      have p14 := of_decide_eq_false b14
      refine wpS_exit ?_
      refine thenS_x ?_
      refine thenS_x ?_
      refine blockS_h ?_
      refine blockS_n ?_
      refine thenS_n ?_
      refine wpS_region ?_
      refine s_y (v := .int .i64 (((i : Nat) : Int))) (y_move h7_13) rfl ?_
      refine s_y (v := .int .i64 ((((i + 1) : Nat) : Int))) (y_add (a := ((i : Nat) : Int)) (b := 1) (c := (((i + 1) : Nat) : Int)) rfl rfl (wI (by omega) (by omega) (by omega))) rfl ?_
      refine s_y (v := .int .i64 ((((i + 1) : Nat) : Int))) (y_assign rfl) rfl ?_
      refine wpL_nil ?_
      refine thenS_n ?_
      exact ⟨_, by omega, ⟨(i + 1), rfl, by omega, rfl, h1_13, h2_13, h5_13, h6_13, rfl, .p (.t (.t .h)) (.p (.t (.t .h)) (.p (.t (.t .h)) .nil))⟩⟩
  · -- decide ((i : Nat) < 2) false
    have p6 := of_decide_eq_false b6
    refine wpS_exit ?_
    refine thenS_x ?_
    refine thenS_x ?_
    refine blockS_h ?_
    refine thenS_n ?_
    refine wpS_seq ?_
    refine wpS_region ?_
    refine s_y (v := .int .i64 x) (y_move h1_5) rfl ?_
    refine s_y (v := .int .u64 ((((u64of x) : Nat) : Int))) (y_convI (a := x) (c := (((u64of x) : Nat) : Int)) rfl Try.underlying3 Try.underlying46 (u64of_wrap _)) rfl ?_
    refine s_y (v := .slice a_3 ((refT (few p)).length) c_4) (y_move h6_5) rfl ?_
    refine s_y (v := .int .i64 ((((refT (few p)).length : Nat) : Int))) (y_len (ty' := 0) (at_ := #[]) rfl Try.underlying115) rfl ?_
    refine s_y (v := .int .i64 (((((refT (few p)).length + 1) : Nat) : Int))) (y_add (a := (((refT (few p)).length : Nat) : Int)) (b := 1) (c := ((((refT (few p)).length + 1) : Nat) : Int)) rfl rfl (wI (by omega) (by omega) (by omega))) rfl ?_
    refine s_y (v := .int .u64 (((((refT (few p)).length + 1) : Nat) : Int))) (y_convI (a := ((((refT (few p)).length + 1) : Nat) : Int)) (c := ((((refT (few p)).length + 1) : Nat) : Int)) rfl Try.underlying3 Try.underlying46 (wU rfl (by omega) (by omega))) rfl ?_
    refine s_y (v := .int .u64 (((((u64of x) % ((refT (few p)).length + 1)) : Nat) : Int))) (y_rem (a := (((u64of x) : Nat) : Int)) (b := ((((refT (few p)).length + 1) : Nat) : Int)) (c := ((((u64of x) % ((refT (few p)).length + 1)) : Nat) : Int)) rfl rfl (by omega) (n_rem _ ((refT (few p)).length + 1) (by omega))) rfl ?_
    refine s_y (v := .int .i64 (((((u64of x) % ((refT (few p)).length + 1)) : Nat) : Int))) (y_convI (a := ((((u64of x) % ((refT (few p)).length + 1)) : Nat) : Int)) (c := ((((u64of x) % ((refT (few p)).length + 1)) : Nat) : Int)) rfl Try.underlying46 Try.underlying3 (wI rfl (by omega) (by omega))) rfl ?_
    refine s_y (v := .int .i64 ((((1 + ((u64of x) % ((refT (few p)).length + 1))) : Nat) : Int))) (y_add (a := 1) (b := ((((u64of x) % ((refT (few p)).length + 1)) : Nat) : Int)) (c := (((1 + ((u64of x) % ((refT (few p)).length + 1))) : Nat) : Int)) rfl rfl (wI (by omega) (by omega) (by omega))) rfl ?_
    refine s_y (v := .int .i64 ((((1 + ((u64of x) % ((refT (few p)).length + 1))) : Nat) : Int))) (y_assign rfl) rfl ?_
    refine wpL_nil ?_
    refine thenS_n ?_
    refine wpS_seq ?_
    refine wpS_region ?_
    refine s_y (v := .agg #[.int .i64 ((few p).n0), .int .i64 ((few p).n1), .int .i64 ((few p).n2), .int .i64 ((few p).n3)]) (y_loadN (vs := [.int .i64 ((few p).n0), .int .i64 ((few p).n1), .int .i64 ((few p).n2), .int .i64 ((few p).n3)]) h2_5 Try.isAgg53 Try.sizeOf53 (ownN (.t (.t .h)) rfl)) rfl ?_
    refine s_y (v := .int .i64 ((((cnt (few p)) : Nat) : Int))) (y_call (args := #[.agg #[.int .i64 ((few p).n0), .int .i64 ((few p).n1), .int .i64 ((few p).n2), .int .i64 ((few p).n3)]]) (v := .int .i64 ((((cnt (few p)) : Nat) : Int))) Try.call65 (ev1 rfl) (fun w hs => count2_c (few p) w)) rfl ?_
    refine s_y (v := .slice a_3 ((refT (few p)).length) c_4) (y_move h6_5) rfl ?_
    refine s_y (v := .int .i64 ((((refT (few p)).length : Nat) : Int))) (y_len (ty' := 0) (at_ := #[]) rfl Try.underlying115) rfl ?_
    refine s_y (v := .bool (decide ((cnt (few p)) = ((refT (few p)).length)))) (y_eql (a := (((cnt (few p)) : Nat) : Int)) (b := (((refT (few p)).length : Nat) : Int)) (c := decide ((cnt (few p)) = ((refT (few p)).length))) rfl rfl (decide_eq_decide.2 (by omega))) rfl ?_
    refine s_y (v := .bool (decide ((cnt (few p)) = ((refT (few p)).length)))) (y_move rfl) rfl ?_
    refine s_gy (y_move h5_5) rfl rfl rfl rfl (b' := decide ((cnt (few p)) = ((refT (few p)).length))) rfl (decide_eq_true (by omega)) ?_
    refine s_gy (y_move rfl) rfl rfl rfl rfl (b' := decide ((cnt (few p)) = ((refT (few p)).length))) rfl (decide_eq_true (by omega)) ?_
    refine s_gy (y_call (args := #[.func (.func 182) #[] #[.pointer (some ⟨b_2, 0, none⟩)], .int .i64 ((((1 + ((u64of x) % ((refT (few p)).length + 1))) : Nat) : Int))]) (v := .int .i64 (min (((1 + ((u64of x) % ((refT (few p)).length + 1))) : Nat) : Int) ((cnt (few p) : Nat) : Int))) Try.call100 (ev2 rfl rfl) (fun w hs => stopstk_c b_2 (few p) (((1 + ((u64of x) % ((refT (few p)).length + 1))) : Nat) : Int) w (celR (.t .h) w hs) (by omega) (by omega) (by omega))) rfl rfl rfl rfl (b' := decide ((cnt (few p)) = ((refT (few p)).length))) rfl (decide_eq_true (by omega)) ?_
    refine s_gy (y_move rfl) rfl rfl rfl rfl (b' := decide ((cnt (few p)) = ((refT (few p)).length))) rfl (decide_eq_true (by omega)) ?_
    refine s_gy (y_move h6_5) rfl rfl rfl rfl (b' := decide ((cnt (few p)) = ((refT (few p)).length))) rfl (decide_eq_true (by omega)) ?_
    refine s_gy (y_len (ty' := 0) (at_ := #[]) rfl Try.underlying115) rfl rfl rfl rfl (b' := decide ((cnt (few p)) = ((refT (few p)).length))) rfl (decide_eq_true (by omega)) ?_
    refine s_gy (y_min (a := (((1 + ((u64of x) % ((refT (few p)).length + 1))) : Nat) : Int)) (b := (((refT (few p)).length : Nat) : Int)) (c := (((min (1 + ((u64of x) % ((refT (few p)).length + 1))) (refT (few p)).length) : Nat) : Int)) rfl rfl (by split <;> omega)) rfl rfl rfl rfl (b' := decide ((cnt (few p)) = ((refT (few p)).length))) rfl (decide_eq_true (by omega)) ?_
    refine s_gy (y_eql (a := min (((1 + ((u64of x) % ((refT (few p)).length + 1))) : Nat) : Int) ((cnt (few p) : Nat) : Int)) (b := (((min (1 + ((u64of x) % ((refT (few p)).length + 1))) (refT (few p)).length) : Nat) : Int)) rfl rfl rfl) rfl rfl rfl rfl (b' := decide ((cnt (few p)) = ((refT (few p)).length))) rfl (decide_eq_true (by omega)) ?_
    refine s_y (v := .bool (decide ((min (((1 + ((u64of x) % ((refT (few p)).length + 1))) : Nat) : Int) ((cnt (few p) : Nat) : Int) : Int) = (((min (1 + ((u64of x) % ((refT (few p)).length + 1))) (refT (few p)).length) : Nat) : Int)))) (y_pickT (b := decide ((cnt (few p)) = ((refT (few p)).length))) (v := .bool (decide ((min (((1 + ((u64of x) % ((refT (few p)).length + 1))) : Nat) : Int) ((cnt (few p) : Nat) : Int) : Int) = (((min (1 + ((u64of x) % ((refT (few p)).length + 1))) (refT (few p)).length) : Nat) : Int)))) rfl (decide_eq_true (by omega)) rfl) rfl ?_
    refine s_y (v := .bool (decide ((min (((1 + ((u64of x) % ((refT (few p)).length + 1))) : Nat) : Int) ((cnt (few p) : Nat) : Int) : Int) = (((min (1 + ((u64of x) % ((refT (few p)).length + 1))) (refT (few p)).length) : Nat) : Int)))) (y_assign rfl) rfl ?_
    refine wpL_nil ?_
    refine thenS_n ?_
    refine wpS_ret ?_
    refine fin1 (v := .bool (decide ((min (((1 + ((u64of x) % ((refT (few p)).length + 1))) : Nat) : Int) ((cnt (few p) : Nat) : Int) : Int) = (((min (1 + ((u64of x) % ((refT (few p)).length + 1))) (refT (few p)).length) : Nat) : Int)))) (.inr rfl) (.nil) Try.results29 rfl ?_
    exact fun w' hs => ⟨congrArg (fun b => Ending.returned (Value.bool b)) (show (decide ((min (((1 + ((u64of x) % ((refT (few p)).length + 1))) : Nat) : Int) ((cnt (few p) : Nat) : Int) : Int) = (((min (1 + ((u64of x) % ((refT (few p)).length + 1))) (refT (few p)).length) : Nat) : Int))) = true from (decide_eq_true (by omega))), hs⟩

end Go.Proofs.Ytldkjjnjdjfipaa
