/- Comparing lists of numbers, walked. -/
import Derived.Test.YtldkjjnjdjfipaaGen
import Derived.Test.YtldkjjnjdjfipaaWRec
namespace Go.Proofs.Ytldkjjnjdjfipaa
open Go Go.RowKit
set_option linter.unusedVariables false
set_option linter.unusedSimpArgs false
set_option maxRecDepth 10000

theorem plain1I_c (a b : Int) (w : World) : Pure Try.prog 157 #[.int .i64 a, .int .i64 b] w (.bool ((decide (a = b)))) := by
  refine calls_S (n := 8) (σ0 := (upd (upd fr0 0 (.int .i64 a)) 1 (.int .i64 b))) (D := []) (A := []) Try.func157 rfl Try.ntmps157 rfl (a2_fr _ _) (SH.start w) ?_
  refine wpS_seq ?_
  refine wpS_region ?_
  refine s_y (v := .bool false) (y_assign rfl) rfl ?_
  refine wpL_nil ?_
  refine thenS_n ?_
  refine wpS_seq ?_
  refine wpS_region ?_
  refine s_y (v := .int .i64 a) (y_move rfl) rfl ?_
  refine s_y (v := .int .i64 b) (y_move rfl) rfl ?_
  refine s_y (v := .bool (decide ((a : Int) = b))) (y_eql (a := a) (b := b) rfl rfl rfl) rfl ?_
  refine s_y (v := .bool (decide ((a : Int) = b))) (y_assign rfl) rfl ?_
  refine wpL_nil ?_
  refine thenS_n ?_
  refine wpS_ret ?_
  refine fin1 (M := []) (v := .bool (decide ((a : Int) = b))) (.inr rfl) (.nil) Try.results157 rfl ?_
  exact fun w' hs => ⟨rfl, hs⟩

theorem hsameI_c (ax ay : Option Addr) (nx ny cx cy : Nat) (x y : List Int) (w : World) (hnx : x.length = nx) (hrx : Rds w ax (x.flatMap intV)) (hbx : nx ≤ 1000000) (hny : y.length = ny) (hry : Rds w ay (y.flatMap intV)) (hby : ny ≤ 1000000) : Pure Try.prog 156 #[.slice ax nx cx, .slice ay ny cy, .func (.func 157) #[] #[]] w (.bool (decide (x = y))) := by
  refine calls_S (n := 30) (σ0 := (upd (upd (upd fr0 0 (.slice ax nx cx)) 1 (.slice ay ny cy)) 2 (.func (.func 157) #[] #[]))) (D := []) (A := []) Try.func156 rfl Try.ntmps156 rfl (a3_fr _ _ _) (SH.start w) ?_
  refine wpS_seq ?_
  refine wpS_region ?_
  refine s_y (v := .bool false) (y_assign rfl) rfl ?_
  refine wpL_nil ?_
  refine thenS_n ?_
  refine wpS_seq ?_
  refine wpS_seq ?_
  refine wpS_region ?_
  refine s_y (v := .slice ax nx cx) (y_move rfl) rfl ?_
  refine s_y (v := .int .i64 (((nx : Nat) : Int))) (y_len (ty' := 0) (at_ := #[]) rfl Try.underlying39) rfl ?_
  refine s_y (v := .slice ay ny cy) (y_move rfl) rfl ?_
  refine s_y (v := .int .i64 (((ny : Nat) : Int))) (y_len (ty' := 0) (at_ := #[]) rfl Try.underlying39) rfl ?_
  refine s_y (v := .bool (decide (nx ≠ ny))) (y_neq (a := ((nx : Nat) : Int)) (b := ((ny : Nat) : Int)) (c := decide (nx ≠ ny)) rfl rfl (decide_eq_decide.2 (by omega))) rfl ?_
  refine wpL_nil ?_
  refine thenS_n ?_
  refine wpS_cond (t := decide (nx ≠ ny)) rfl (fun b1 => ?_) (fun b1 => ?_)
  · -- decide (nx ≠ ny) true
    have p1 := of_decide_eq_true b1
    refine wpS_seq ?_
    refine wpS_region ?_
    refine s_y (v := .bool false) (y_assign rfl) rfl ?_
    refine wpL_nil ?_
    refine thenS_n ?_
    refine wpS_ret ?_
    refine thenS_r ?_
    refine fin1 (M := []) (v := .bool false) (.inr rfl) (.nil) Try.results156 rfl ?_
    exact fun w' hs => ⟨congrArg (fun b => Ending.returned (Value.bool b)) (by exact (decide_eq_false fun h => by subst h; omega).symm), hs⟩
  · -- decide (nx ≠ ny) false
    have p1 := of_decide_eq_false b1
    refine wpS_skip ?_
    refine thenS_n ?_
    refine wpS_seq ?_
    refine wpS_seq ?_
    refine wpS_region ?_
    refine s_y (v := .int .i64 0) (y_assign rfl) rfl ?_
    refine wpL_nil ?_
    refine thenS_n ?_
    refine wpS_block ?_
    refine wpS_loop (fun m ds σ L => ∃ i : Nat, m = nx - i ∧ (i ≤ nx) ∧ (x.take i = y.take i) ∧ ds = [] ∧ σ 0 = .slice ax nx cx ∧ σ 1 = .slice ay ny cy ∧ σ 2 = .func (.func 157) #[] #[] ∧ σ 7 = .int .i64 (((i : Nat) : Int)) ∧ Ent L []) (m0 := nx - 0) ⟨0, rfl, by omega, (by simp), rfl, rfl, rfl, rfl, rfl, .nil⟩ ?_
    rintro m ds σ L ⟨i, hm_2, hf0_2, hf1_2, rfl, h0_2, h1_2, h2_2, h7_2, hE_2⟩
    refine wpS_ent hE_2 ?_; clear hE_2
    refine wpS_seq ?_
    refine wpS_seq ?_
    refine wpS_region ?_
    refine s_y (v := .int .i64 (((i : Nat) : Int))) (y_move h7_2) rfl ?_
    refine s_y (v := .slice ax nx cx) (y_move h0_2) rfl ?_
    refine s_y (v := .int .i64 (((nx : Nat) : Int))) (y_len (ty' := 0) (at_ := #[]) rfl Try.underlying39) rfl ?_
    refine s_y (v := .bool (decide (i < nx))) (y_lss (a := ((i : Nat) : Int)) (b := ((nx : Nat) : Int)) (c := decide (i < nx)) rfl rfl (decide_eq_decide.2 (by omega))) rfl ?_
    refine wpL_nil ?_
    refine thenS_n ?_
    refine wpS_cond (t := decide (i < nx)) rfl (fun b3 => ?_) (fun b3 => ?_)
    · -- decide (i < nx) true
      have p3 := of_decide_eq_true b3
      refine wpS_skip ?_
      refine thenS_n ?_
      refine wpS_seq ?_
      refine wpS_block ?_
      refine wpS_seq ?_
      refine wpS_lex (by kernel_rfl) (by kernel_rfl) ?_
      refine x_y (v := .func (.func 157) #[] #[]) (y_move h2_2) rfl ?_
      refine x_y (v := .slice ax nx cx) (y_move h0_2) rfl ?_
      refine x_y (v := .int .i64 (((i : Nat) : Int))) (y_move h7_2) rfl ?_
      refine x_y (v := .pointer (some ⟨aB ax, aO ax + i * 1, none⟩)) (y_idx (o := i * 1) rfl rfl Try.underlying39 Try.sizeOf3 (oldR hrx) ((fl_len intV_len _).trans (by first | omega | (simp only [List.length_set, List.length_take, List.length_drop]; done) | (simp only [List.length_set, List.length_take, List.length_drop]; omega))) (by decide) (by omega) (by omega) (by omega)) rfl ?_
      refine x_y (v := .int .i64 ((x.getD i default))) (y_load1 (v := .int .i64 ((x.getD i default))) rfl Try.isAgg3 (rd1 (k := i * 1) (oldR hrx) (fl_get0 intV_len x i (by first | omega | (simp only [List.length_set, List.length_take, List.length_drop]; done) | (simp only [List.length_set, List.length_take, List.length_drop]; omega)) rfl))) rfl ?_
      refine x_y (v := .slice ay ny cy) (y_move h1_2) rfl ?_
      refine x_y (v := .int .i64 (((i : Nat) : Int))) (y_move h7_2) rfl ?_
      refine x_y (v := .pointer (some ⟨aB ay, aO ay + i * 1, none⟩)) (y_idx (o := i * 1) rfl rfl Try.underlying39 Try.sizeOf3 (oldR hry) ((fl_len intV_len _).trans (by first | omega | (simp only [List.length_set, List.length_take, List.length_drop]; done) | (simp only [List.length_set, List.length_take, List.length_drop]; omega))) (by decide) (by omega) (by omega) (by omega)) rfl ?_
      refine x_y (v := .int .i64 ((y.getD i default))) (y_load1 (v := .int .i64 ((y.getD i default))) rfl Try.isAgg3 (rd1 (k := i * 1) (oldR hry) (fl_get0 intV_len y i (by first | omega | (simp only [List.length_set, List.length_take, List.length_drop]; done) | (simp only [List.length_set, List.length_take, List.length_drop]; omega)) rfl))) rfl ?_
      refine x_y (v := .bool (decide ((x.getD i default) = (y.getD i default)))) (y_callV (cap := #[]) (args := #[.int .i64 ((x.getD i default)), .int .i64 ((y.getD i default))]) (args' := #[.int .i64 ((x.getD i default)), .int .i64 ((y.getD i default))]) (v := .bool (decide ((x.getD i default) = (y.getD i default)))) rfl Try.call157 (ev2 rfl rfl) rfl (fun w hs => plain1I_c (x.getD i default) (y.getD i default) w)) rfl ?_
      refine x_y (v := .bool (!(decide ((x.getD i default) = (y.getD i default))))) (y_not (b := decide ((x.getD i default) = (y.getD i default))) rfl) rfl ?_
      refine x_nil ?_
      refine thenS_n ?_
      refine wpS_cond (t := !(decide ((x.getD i default) = (y.getD i default)))) rfl (fun b4 => ?_) (fun b4 => ?_)
      · -- !(decide ((x.getD i default) = (y.getD i default))) true
        have b5 : (decide ((x.getD i default) = (y.getD i default))) = false := by simpa using b4
        have p5 := of_decide_eq_false b5
        refine wpS_seq ?_
        refine wpS_region ?_
        refine s_y (v := .bool false) (y_assign rfl) rfl ?_
        refine wpL_nil ?_
        refine thenS_n ?_
        refine wpS_ret ?_
        refine blockS_r ?_
        refine thenS_r ?_
        refine thenS_r ?_
        refine blockS_r ?_
        refine thenS_r ?_
        refine fin1 (M := []) (v := .bool false) (.inr rfl) (.nil) Try.results156 rfl ?_
        exact fun w' hs => ⟨congrArg (fun b => Ending.returned (Value.bool b)) (by exact (gsame_not (i := i) (by assumption)).symm), hs⟩
      · -- !(decide ((x.getD i default) = (y.getD i default))) false
        have b6 : (decide ((x.getD i default) = (y.getD i default))) = true := by simpa using b4
        have p6 := of_decide_eq_true b6
        refine wpS_skip ?_
        refine blockS_n ?_
        refine thenS_n ?_
        refine wpS_region ?_
        refine s_y (v := .int .i64 (((i : Nat) : Int))) (y_move h7_2) rfl ?_
        refine s_y (v := .int .i64 ((((i + 1) : Nat) : Int))) (y_add (a := ((i : Nat) : Int)) (b := 1) (c := (((i + 1) : Nat) : Int)) rfl rfl (wI (by omega) (by omega) (by omega))) rfl ?_
        refine s_y (v := .int .i64 ((((i + 1) : Nat) : Int))) (y_assign rfl) rfl ?_
        refine wpL_nil ?_
        refine thenS_n ?_
        exact ⟨_, by omega, ⟨(i + 1), rfl, by omega, (gsame_step (by omega) (by omega) (by assumption) (by assumption)), rfl, h0_2, h1_2, h2_2, rfl, .nil⟩⟩
    · -- decide (i < nx) false
      have p3 := of_decide_eq_false b3
      refine wpS_exit ?_
      refine thenS_x ?_
      refine thenS_x ?_
      refine blockS_h ?_
      refine thenS_n ?_
      refine wpS_seq ?_
      refine wpS_region ?_
      refine s_y (v := .bool true) (y_assign rfl) rfl ?_
      refine wpL_nil ?_
      refine thenS_n ?_
      refine wpS_ret ?_
      refine fin1 (M := []) (v := .bool true) (.inr rfl) (.nil) Try.results156 rfl ?_
      exact fun w' hs => ⟨congrArg (fun b => Ending.returned (Value.bool b)) (by exact (gsame_all (i := i) hnx hny (by omega) (by omega) (by assumption)).symm), hs⟩

theorem plainI_c (ax ay : Option Addr) (nx ny cx cy : Nat) (x y : List Int) (w : World) (hnx : x.length = nx) (hrx : Rds w ax (x.flatMap intV)) (hbx : nx ≤ 1000000) (hny : y.length = ny) (hry : Rds w ay (y.flatMap intV)) (hby : ny ≤ 1000000) : Pure Try.prog 58 #[.slice ax nx cx, .slice ay ny cy] w (.bool ((decide (x = y)))) := by
  refine calls_S (n := 8) (σ0 := (upd (upd fr0 0 (.slice ax nx cx)) 1 (.slice ay ny cy))) (D := []) (A := []) Try.func58 rfl Try.ntmps58 rfl (a2_fr _ _) (SH.start w) ?_
  refine wpS_seq ?_
  refine wpS_region ?_
  refine s_y (v := .bool false) (y_assign rfl) rfl ?_
  refine wpL_nil ?_
  refine thenS_n ?_
  refine wpS_seq ?_
  refine wpS_region ?_
  refine s_y (v := .slice ax nx cx) (y_move rfl) rfl ?_
  refine s_y (v := .slice ay ny cy) (y_move rfl) rfl ?_
  refine s_y (v := .bool (decide (x = y))) (y_call (args := #[.slice ax nx cx, .slice ay ny cy, .func (.func 157) #[] #[]]) (v := .bool (decide (x = y))) Try.call156 (ev3 rfl rfl rfl) (fun w hs => hsameI_c ax ay nx ny cx cy x y w hnx ((oldR hrx) w hs) (by omega) hny ((oldR hry) w hs) (by omega))) rfl ?_
  refine s_y (v := .bool (decide (x = y))) (y_assign rfl) rfl ?_
  refine wpL_nil ?_
  refine thenS_n ?_
  refine wpS_ret ?_
  refine fin1 (M := []) (v := .bool (decide (x = y))) (.inr rfl) (.nil) Try.results58 rfl ?_
  exact fun w' hs => ⟨rfl, hs⟩

end Go.Proofs.Ytldkjjnjdjfipaa
