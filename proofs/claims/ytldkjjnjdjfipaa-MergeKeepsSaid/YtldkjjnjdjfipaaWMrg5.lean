/- merge.Sorted, walked. -/
import Derived.Test.YtldkjjnjdjfipaaWMrg4
namespace Go.Proofs.Ytldkjjnjdjfipaa
open Go Go.RowKit
set_option linter.unusedVariables false
set_option linter.unusedSimpArgs false
set_option maxRecDepth 10000

/-- in order -/
def srtd (sq : Bool) (l : List Rec) : Bool := decide (∀ j, j < l.length → 1 ≤ j → ahd sq (l.getD j default) (l.getD (j - 1) default) = false)
theorem srt_step {sq : Bool} {l : List Rec} {i : Nat} (h : ∀ j, j < i → 1 ≤ j → ahd sq (l.getD j default) (l.getD (j - 1) default) = false) (h2 : ¬ b64 (ahd sq (l.getD i default) (l.getD (i - 1) default)) = 1) : ∀ j, j < i + 1 → 1 ≤ j → ahd sq (l.getD j default) (l.getD (j - 1) default) = false := fun j h1 h3 => by
  rcases Nat.lt_or_ge j i with h4 | h4
  · exact h j h4 h3
  · obtain rfl : j = i := by omega
    simpa [b64_one] using h2

theorem sorted_c (a : Option Addr) (n c : Nat) (l : List Rec) (sq : Bool) (w : World) (hn : l.length = n) (hr : Rds w a (l.flatMap recV)) (hb : n ≤ 1000000) : Pure Try.prog 79 #[.slice a n c, .bool sq] w (.bool ((srtd sq l))) := by
  refine calls_S (n := 24) (σ0 := (upd (upd fr0 0 (.slice a n c)) 1 (.bool sq))) (D := []) (A := []) Try.func79 rfl Try.ntmps79 rfl (a2_fr _ _) (SH.start w) ?_
  refine wpS_seq ?_
  refine wpS_region ?_
  refine s_y (v := .bool false) (y_assign rfl) rfl ?_
  refine wpL_nil ?_
  refine thenS_n ?_
  refine wpS_seq ?_
  refine wpS_seq ?_
  refine wpS_region ?_
  refine s_y (v := .int .i64 1) (y_assign rfl) rfl ?_
  refine wpL_nil ?_
  refine thenS_n ?_
  refine wpS_block ?_
  refine wpS_loop (fun m ds σ L => ∃ i : Nat, m = n - i ∧ (1 ≤ i) ∧ (∀ j, j < i → 1 ≤ j → ahd sq (l.getD j default) (l.getD (j - 1) default) = false) ∧ ds = [] ∧ σ 0 = .slice a n c ∧ σ 1 = .bool sq ∧ σ 5 = .int .i64 (((i : Nat) : Int)) ∧ Ent L []) (m0 := n - 1) ⟨1, rfl, by omega, (fun j h1 h2 => by omega), rfl, rfl, rfl, rfl, .nil⟩ ?_
  rintro m ds σ L ⟨i, hm_1, hf0_1, hf1_1, rfl, h0_1, h1_1, h5_1, hE_1⟩
  refine wpS_ent hE_1 ?_; clear hE_1
  refine wpS_seq ?_
  refine wpS_seq ?_
  refine wpS_region ?_
  refine s_y (v := .int .i64 (((i : Nat) : Int))) (y_move h5_1) rfl ?_
  refine s_y (v := .slice a n c) (y_move h0_1) rfl ?_
  refine s_y (v := .int .i64 (((n : Nat) : Int))) (y_len (ty' := 0) (at_ := #[]) rfl Try.underlying69) rfl ?_
  refine s_y (v := .bool (decide (i < n))) (y_lss (a := ((i : Nat) : Int)) (b := ((n : Nat) : Int)) (c := decide (i < n)) rfl rfl (by simp only [decide_eq_decide]; omega)) rfl ?_
  refine wpL_nil ?_
  refine thenS_n ?_
  refine wpS_cond (t := decide (i < n)) rfl (fun b2 => ?_) (fun b2 => ?_)
  · -- decide (i < n) true
    have p2 := of_decide_eq_true b2
    refine wpS_skip ?_
    refine thenS_n ?_
    refine wpS_seq ?_
    refine wpS_block ?_
    refine wpS_seq ?_
    refine wpS_lex (by kernel_rfl) (by kernel_rfl) ?_
    refine x_y (v := .slice a n c) (y_move h0_1) rfl ?_
    refine x_y (v := .int .i64 (((i : Nat) : Int))) (y_move h5_1) rfl ?_
    refine x_y (v := .int .i64 ((((i - 1) : Nat) : Int))) (y_sub (a := ((i : Nat) : Int)) (b := 1) (c := (((i - 1) : Nat) : Int)) rfl rfl (wI (by omega) (by omega) (by omega))) rfl ?_
    refine x_y (v := .pointer (some ⟨aB a, aO a + (i - 1) * 4, none⟩)) (y_idx (o := (i - 1) * 4) rfl rfl Try.underlying69 Try.sizeOf23 (oldR hr) ((fl_len recV_len _).trans (by first | omega | (simp only [List.length_set, List.length_take, List.length_drop]; done) | (simp only [List.length_set, List.length_take, List.length_drop]; omega))) (by decide) (by omega) (by omega) (by omega)) rfl ?_
    refine x_y (v := .agg #[.bool ((l.getD (i - 1) default).dead), .int .i64 (((l.getD (i - 1) default).key).toInt), .int .i64 (((l.getD (i - 1) default).value).toInt), .int .i64 (((l.getD (i - 1) default).seq).toInt)]) (y_loadN (vs := recV (l.getD (i - 1) default)) rfl Try.isAgg23 Try.sizeOf23 (rdN (oldR hr) (fl_getN recV_len l (i - 1) (by first | omega | (simp only [List.length_set, List.length_take, List.length_drop]; done) | (simp only [List.length_set, List.length_take, List.length_drop]; omega))))) rfl ?_
    refine x_y (v := .slice a n c) (y_move h0_1) rfl ?_
    refine x_y (v := .int .i64 (((i : Nat) : Int))) (y_move h5_1) rfl ?_
    refine x_y (v := .pointer (some ⟨aB a, aO a + i * 4, none⟩)) (y_idx (o := i * 4) rfl rfl Try.underlying69 Try.sizeOf23 (oldR hr) ((fl_len recV_len _).trans (by first | omega | (simp only [List.length_set, List.length_take, List.length_drop]; done) | (simp only [List.length_set, List.length_take, List.length_drop]; omega))) (by decide) (by omega) (by omega) (by omega)) rfl ?_
    refine x_y (v := .agg #[.bool ((l.getD i default).dead), .int .i64 (((l.getD i default).key).toInt), .int .i64 (((l.getD i default).value).toInt), .int .i64 (((l.getD i default).seq).toInt)]) (y_loadN (vs := recV (l.getD i default)) rfl Try.isAgg23 Try.sizeOf23 (rdN (oldR hr) (fl_getN recV_len l i (by first | omega | (simp only [List.length_set, List.length_take, List.length_drop]; done) | (simp only [List.length_set, List.length_take, List.length_drop]; omega))))) rfl ?_
    refine x_y (v := .bool sq) (y_move h1_1) rfl ?_
    refine x_y (v := .int .u64 ((b64 (ahd sq (l.getD i default) (l.getD (i - 1) default))).toNat)) (y_call (args := #[.agg #[.bool ((l.getD (i - 1) default).dead), .int .i64 (((l.getD (i - 1) default).key).toInt), .int .i64 (((l.getD (i - 1) default).value).toInt), .int .i64 (((l.getD (i - 1) default).seq).toInt)], .agg #[.bool ((l.getD i default).dead), .int .i64 (((l.getD i default).key).toInt), .int .i64 (((l.getD i default).value).toInt), .int .i64 (((l.getD i default).seq).toInt)], .bool sq]) (v := .int .u64 ((b64 (ahd sq (l.getD i default) (l.getD (i - 1) default))).toNat)) Try.call169 (ev3 rfl rfl rfl) (fun w hs => stands_c (l.getD (i - 1) default) (l.getD i default) sq w)) rfl ?_
    refine x_y (v := .bool (decide ((b64 (ahd sq (l.getD i default) (l.getD (i - 1) default))) = 1))) (y_eql (a := (b64 (ahd sq (l.getD i default) (l.getD (i - 1) default))).toNat) (b := 1) (c := decide ((b64 (ahd sq (l.getD i default) (l.getD (i - 1) default))) = 1)) rfl rfl (u_eqlL _ 1 (by decide))) rfl ?_
    refine x_nil ?_
    refine thenS_n ?_
    refine wpS_cond (t := decide ((b64 (ahd sq (l.getD i default) (l.getD (i - 1) default))) = 1)) rfl (fun b3 => ?_) (fun b3 => ?_)
    · -- decide ((b64 (ahd sq (l.getD i default) (l.getD (i - 1) default))) = 1) true
      have p3 := of_decide_eq_true b3
      refine wpS_seq ?_
      refine wpS_region ?_
      refine s_y (v := .bool false) (y_assign rfl) rfl ?_
      refine wpL_nil ?_
      refine thenS_n ?_
      refine wpS_ret ?_
      refine blockS_r ?_
      refine thenS_r ?_
      refine thenS_r ?_
      refine blockS_r ?_
      refine thenS_r ?_
      refine fin1 (v := .bool false) (.inr rfl) .nil Try.results79 rfl ?_
      exact fun w' hs => ⟨congrArg (fun b => Ending.returned (Value.bool b)) (decide_eq_false fun h => by have h1 := h i (by omega) (by omega); have h2 := (by assumption : b64 (ahd sq (l.getD i default) (l.getD (i - 1) default)) = 1); rw [b64_one, h1] at h2; cases h2).symm, hs⟩
    · -- decide ((b64 (ahd sq (l.getD i default) (l.getD (i - 1) default))) = 1) false
      have p3 := of_decide_eq_false b3
      refine wpS_skip ?_
      refine blockS_n ?_
      refine thenS_n ?_
      refine wpS_region ?_
      refine s_y (v := .int .i64 (((i : Nat) : Int))) (y_move h5_1) rfl ?_
      refine s_y (v := .int .i64 ((((i + 1) : Nat) : Int))) (y_add (a := ((i : Nat) : Int)) (b := 1) (c := (((i + 1) : Nat) : Int)) rfl rfl (wI (by omega) (by omega) (by omega))) rfl ?_
      refine s_y (v := .int .i64 ((((i + 1) : Nat) : Int))) (y_assign rfl) rfl ?_
      refine wpL_nil ?_
      refine thenS_n ?_
      exact ⟨_, by omega, ⟨(i + 1), rfl, by omega, (srt_step (by assumption) (by assumption)), rfl, h0_1, h1_1, rfl, .nil⟩⟩
  · -- decide (i < n) false
    have p2 := of_decide_eq_false b2
    refine wpS_exit ?_
    refine thenS_x ?_
    refine thenS_x ?_
    refine blockS_h ?_
    refine thenS_n ?_
    refine wpS_seq ?_
    refine wpS_region ?_
    refine s_y (v := .bool true) (y_assign rfl) rfl ?_
    refine wpL_nil ?_
    refine thenS_n ?_
    refine wpS_ret ?_
    refine fin1 (v := .bool true) (.inr rfl) .nil Try.results79 rfl ?_
    exact fun w' hs => ⟨congrArg (fun b => Ending.returned (Value.bool b)) (decide_eq_true fun j h1 h2 => (by assumption : ∀ j, j < i → 1 ≤ j → ahd sq (l.getD j default) (l.getD (j - 1) default) = false) j (by omega) h2).symm, hs⟩

end Go.Proofs.Ytldkjjnjdjfipaa
