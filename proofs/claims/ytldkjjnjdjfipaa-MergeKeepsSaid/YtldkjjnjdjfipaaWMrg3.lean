/- slices.Grow, slices.Concat, walked. -/
import Derived.Test.YtldkjjnjdjfipaaWMrg2
namespace Go.Proofs.Ytldkjjnjdjfipaa
open Go Go.RowKit
set_option linter.unusedVariables false
set_option linter.unusedSimpArgs false
set_option maxRecDepth 10000

theorem grow_c (m : Nat) (w : World) (hm : m ≤ 1000000) : MakesS Try.prog 224 #[.slice none 0 0, .int .i64 ((m : Nat) : Int)] w [] recV 4 23 ([] : List Rec) := by
  refine calls_S (n := 27) (σ0 := (upd (upd fr0 0 (.slice none 0 0)) 1 (.int .i64 (((m : Nat) : Int))))) (D := []) (A := []) Try.func224 rfl Try.ntmps224 rfl (a2_fr _ _) (SH.start w) ?_
  refine wpS_seq ?_
  refine wpS_region ?_
  refine s_y (v := .slice none 0 0) (y_assign rfl) rfl ?_
  refine wpL_nil ?_
  refine thenS_n ?_
  refine wpS_seq ?_
  refine wpS_seq ?_
  refine wpS_region ?_
  refine s_y (v := .int .i64 (((m : Nat) : Int))) (y_move rfl) rfl ?_
  refine s_y (v := .bool (decide ((m : Nat) < 0))) (y_lss (a := ((m : Nat) : Int)) (b := 0) (c := decide ((m : Nat) < 0)) rfl rfl (by simp only [decide_eq_decide]; omega)) rfl ?_
  refine wpL_nil ?_
  refine thenS_n ?_
  refine wpS_cond_F (t := decide ((m : Nat) < 0)) rfl (by simp) ?_
  refine wpS_skip ?_
  refine thenS_n ?_
  refine wpS_seq ?_
  refine wpS_seq ?_
  refine wpS_region ?_
  refine s_y (v := .int .i64 (((m : Nat) : Int))) (y_move rfl) rfl ?_
  refine s_y (v := .slice none 0 0) (y_move rfl) rfl ?_
  refine s_y (v := .int .i64 0) (y_cap rfl Try.underlying69) rfl ?_
  refine s_y (v := .slice none 0 0) (y_move rfl) rfl ?_
  refine s_y (v := .int .i64 0) (y_len (ty' := 0) (at_ := #[]) rfl Try.underlying69) rfl ?_
  refine s_y (v := .int .i64 0) (y_sub (a := 0) (b := 0) (c := 0) rfl rfl (by decide)) rfl ?_
  refine s_y (v := .int .i64 (((m : Nat) : Int))) (y_sub (a := ((m : Nat) : Int)) (b := 0) (c := ((m : Nat) : Int)) rfl rfl (wI (by omega) (by omega) (by omega))) rfl ?_
  refine s_y (v := .int .i64 (((m : Nat) : Int))) (y_assign rfl) rfl ?_
  refine wpL_nil ?_
  refine thenS_n ?_
  refine wpS_seq ?_
  refine wpS_region ?_
  refine s_y (v := .int .i64 (((m : Nat) : Int))) (y_move rfl) rfl ?_
  refine s_y (v := .bool (decide ((0 : Nat) < m))) (y_gtr (a := ((m : Nat) : Int)) (b := 0) (c := decide ((0 : Nat) < m)) rfl rfl (by simp only [decide_eq_decide]; omega)) rfl ?_
  refine wpL_nil ?_
  refine thenS_n ?_
  refine wpS_cond (t := decide ((0 : Nat) < m)) rfl (fun b1 => ?_) (fun b1 => ?_)
  · -- decide ((0 : Nat) < m) true
    have p1 := of_decide_eq_true b1
    refine wpS_region ?_
    refine s_y (v := .slice none 0 0) (y_move rfl) rfl ?_
    refine s_y (v := .slice none 0 0) (y_move rfl) rfl ?_
    refine s_y (v := .int .i64 0) (y_cap rfl Try.underlying69) rfl ?_
    refine s_y (v := .slice none 0 0) (y_sliceH (h' := 0) rfl rfl Try.underlying69 Try.sizeOf23 (by decide) (by decide) (by decide)) rfl ?_
    refine s_y (v := .int .i64 (((m : Nat) : Int))) (y_move rfl) rfl ?_
    refine s_e rfl ?_
    refine e_appendZ0 (bytes := 32) Try.underlying69 Try.underlying3 (i := Try.t23) rfl rfl rfl rfl rfl (by decide) (by decide) rfl rfl (by omega) (by omega) ?_
    intro b_2 c_3
    refine wpL_ent (SH.cut0 .h (by simp)) ?_
    refine s_y (v := .slice none 0 0) (y_move rfl) rfl ?_
    refine s_y (v := .int .i64 0) (y_len (ty' := 0) (at_ := #[]) rfl Try.underlying69) rfl ?_
    refine s_y (v := .slice (some ⟨b_2, 0, none⟩) 0 c_3) (y_sliceH (h' := 0) rfl rfl Try.underlying69 Try.sizeOf23 (by decide) (by omega) (by decide)) rfl ?_
    refine s_y (v := .slice (some ⟨b_2, 0, none⟩) 0 c_3) (y_assign rfl) rfl ?_
    refine wpL_nil ?_
    refine thenS_n ?_
    refine wpS_seq ?_
    refine wpS_region ?_
    refine s_y (v := .slice (some ⟨b_2, 0, none⟩) 0 c_3) (y_move rfl) rfl ?_
    refine s_y (v := .slice (some ⟨b_2, 0, none⟩) 0 c_3) (y_assign rfl) rfl ?_
    refine wpL_nil ?_
    refine thenS_n ?_
    refine wpS_ret ?_
    refine fin1 (M := [osl (some ⟨b_2, 0, none⟩) c_3 0 4 23 ([])]) (v := .slice (some ⟨b_2, 0, none⟩) 0 c_3) (.inr rfl) (.p .h .nil) Try.results224 rfl ?_
    exact fun w' hs => ⟨(some ⟨b_2, 0, none⟩, c_3), rfl, hs, trivial⟩
  · -- decide ((0 : Nat) < m) false
    have p1 := of_decide_eq_false b1
    refine wpS_skip ?_
    refine thenS_n ?_
    refine wpS_seq ?_
    refine wpS_region ?_
    refine s_y (v := .slice none 0 0) (y_move rfl) rfl ?_
    refine s_y (v := .slice none 0 0) (y_assign rfl) rfl ?_
    refine wpL_nil ?_
    refine thenS_n ?_
    refine wpS_ret ?_
    refine finNil (.inr rfl) .nil Try.results224 rfl (sz := 4) (ty := 23) ?_
    exact fun w' hs => ⟨(none, 0), by rw [show [] = [] from rfl]; rfl, by rw [show [] = [] from rfl]; exact hs, trivial⟩

theorem concat_c (sa : Option Addr) (q cs : Nat) (hs : List SlH) (ls : List (List Rec)) (w : World) (hm : hs.length = q) (hl : ls.length = q) (hrs : Rds w sa (hs.flatMap slhV)) (hall : ∀ k, k < q → (ls.getD k []).length = (hs.getD k default).n ∧ Rds w (hs.getD k default).a ((ls.getD k []).flatMap recV)) (hb : ls.flatten.length ≤ 1000000) (hbm : q ≤ 1000000) : MakesS Try.prog 167 #[.slice sa q cs] w [] recV 4 23 ls.flatten := by
  refine calls_S (n := 36) (σ0 := (upd fr0 0 (.slice sa q cs))) (D := []) (A := []) Try.func167 rfl Try.ntmps167 rfl (a1_fr _) (SH.start w) ?_
  refine wpS_seq ?_
  refine wpS_region ?_
  refine s_y (v := .slice none 0 0) (y_assign rfl) rfl ?_
  refine wpL_nil ?_
  refine thenS_n ?_
  refine wpS_seq ?_
  refine wpS_region ?_
  refine s_y (v := .int .i64 0) (y_assign rfl) rfl ?_
  refine wpL_nil ?_
  refine thenS_n ?_
  refine wpS_seq ?_
  refine wpS_seq ?_
  refine wpS_region ?_
  refine s_y (v := .slice sa q cs) (y_move rfl) rfl ?_
  refine s_y (v := .int .i64 (((q : Nat) : Int))) (y_len (ty' := 0) (at_ := #[]) rfl Try.underlying80) rfl ?_
  refine s_y (v := .int .i64 0) (y_move rfl) rfl ?_
  refine wpL_nil ?_
  refine thenS_n ?_
  refine wpS_block ?_
  refine wpS_loop (fun m ds σ L => ∃ k : Nat, m = q - k ∧ k ≤ q ∧ (ls.take k).flatten.length ≤ 1000000 ∧ ds = [] ∧ σ 0 = .slice sa q cs ∧ σ 3 = .int .i64 (((((ls.take k).flatten.length) : Nat) : Int)) ∧ σ 9 = .slice sa q cs ∧ σ 10 = .int .i64 (((q : Nat) : Int)) ∧ σ 11 = .int .i64 (((k : Nat) : Int)) ∧ Ent L []) (m0 := q - 0) ⟨0, rfl, by omega, (by simp), rfl, rfl, (congrArg (Value.int .i64) (by first | omega | (simp; done))), rfl, rfl, rfl, .nil⟩ ?_
  rintro m ds σ L ⟨k, hm_1, hf0_1, hf1_1, rfl, h0_1, h3_1, h9_1, h10_1, h11_1, hE_1⟩
  refine wpS_ent hE_1 ?_; clear hE_1
  refine wpS_seq ?_
  refine wpS_region ?_
  refine s_y (v := .bool (decide (k < q))) (y_lss (a := ((k : Nat) : Int)) (b := ((q : Nat) : Int)) (c := decide (k < q)) h11_1 h10_1 (by simp only [decide_eq_decide]; omega)) rfl ?_
  refine wpL_nil ?_
  refine thenS_n ?_
  refine wpS_seq ?_
  refine wpS_cond (t := decide (k < q)) rfl (fun b2 => ?_) (fun b2 => ?_)
  · -- decide (k < q) true
    have p2 := of_decide_eq_true b2
    refine wpS_skip ?_
    refine thenS_n ?_
    refine wpS_seq ?_
    refine wpS_block ?_
    refine wpS_seq ?_
    refine wpS_region ?_
    refine s_y (v := .pointer (some ⟨aB sa, aO sa + k * 1, none⟩)) (y_idx (o := k * 1) h9_1 h11_1 Try.underlying80 Try.sizeOf69 (oldR hrs) (by rw [fl_len slhV_len]; (try simp only [List.length_set]); omega) (by decide) (by omega) (by omega) (by omega)) rfl ?_
    refine s_y (v := .slice ((hs.getD k default).a) ((hs.getD k default).n) ((hs.getD k default).c)) (y_load1 (v := .slice ((hs.getD k default).a) ((hs.getD k default).n) ((hs.getD k default).c)) rfl Try.isAgg69 (rd1 (oldR hrs) (fl_get0 slhV_len hs k (by omega) rfl))) rfl ?_
    have hnk := (hall k (by omega)).1
    have hk1 : (ls.take k).flatten.length + (ls.getD k []).length = (ls.take (k + 1)).flatten.length := by rw [← flat_succ ls k (by omega), List.length_append]
    have hk2 := flat_le ls (k + 1)
    refine s_y (v := .slice ((hs.getD k default).a) ((hs.getD k default).n) ((hs.getD k default).c)) (y_assign rfl) rfl ?_
    refine wpL_nil ?_
    refine thenS_n ?_
    refine wpS_seq ?_
    refine wpS_region ?_
    refine s_y (v := .int .i64 (((((ls.take k).flatten.length) : Nat) : Int))) (y_move h3_1) rfl ?_
    refine s_y (v := .slice ((hs.getD k default).a) ((hs.getD k default).n) ((hs.getD k default).c)) (y_move rfl) rfl ?_
    refine s_y (v := .int .i64 ((((hs.getD k default).n : Nat) : Int))) (y_len (ty' := 0) (at_ := #[]) rfl Try.underlying69) rfl ?_
    refine s_y (v := .int .i64 ((((((ls.take k).flatten.length) + (hs.getD k default).n) : Nat) : Int))) (y_add (a := ((((ls.take k).flatten.length) : Nat) : Int)) (b := (((hs.getD k default).n : Nat) : Int)) (c := (((((ls.take k).flatten.length) + (hs.getD k default).n) : Nat) : Int)) rfl rfl (wI (by omega) (by omega) (by omega))) rfl ?_
    refine s_y (v := .int .i64 ((((((ls.take k).flatten.length) + (hs.getD k default).n) : Nat) : Int))) (y_assign rfl) rfl ?_
    refine wpL_nil ?_
    refine thenS_n ?_
    refine wpS_seq ?_
    refine wpS_region ?_
    refine s_y (v := .int .i64 ((((((ls.take k).flatten.length) + (hs.getD k default).n) : Nat) : Int))) (y_move rfl) rfl ?_
    refine s_y (v := .bool (decide (((((ls.take k).flatten.length) + (hs.getD k default).n) : Nat) < 0))) (y_lss (a := (((((ls.take k).flatten.length) + (hs.getD k default).n) : Nat) : Int)) (b := 0) (c := decide (((((ls.take k).flatten.length) + (hs.getD k default).n) : Nat) < 0)) rfl rfl (by simp only [decide_eq_decide]; omega)) rfl ?_
    refine wpL_nil ?_
    refine thenS_n ?_
    refine wpS_cond_F (t := decide (((((ls.take k).flatten.length) + (hs.getD k default).n) : Nat) < 0)) rfl (by simp) ?_
    refine wpS_skip ?_
    refine blockS_n ?_
    refine thenS_n ?_
    refine wpS_region ?_
    refine s_y (v := .int .i64 ((((k + 1) : Nat) : Int))) (y_add (a := ((k : Nat) : Int)) (b := 1) (c := (((k + 1) : Nat) : Int)) h11_1 rfl (wI (by omega) (by omega) (by omega))) rfl ?_
    refine s_y (v := .int .i64 ((((k + 1) : Nat) : Int))) (y_move rfl) rfl ?_
    refine wpL_nil ?_
    refine thenS_n ?_
    exact ⟨_, by omega, ⟨(k + 1), rfl, by omega, by omega, rfl, h0_1, (congrArg (Value.int .i64) (by first | omega | (simp; done))), h9_1, h10_1, rfl, .nil⟩⟩
  · -- decide (k < q) false
    have p2 := of_decide_eq_false b2
    refine wpS_exit ?_
    refine thenS_x ?_
    refine thenS_x ?_
    refine blockS_h ?_
    refine thenS_n ?_
    refine wpS_seq ?_
    refine wpS_region ?_
    refine s_y (v := .int .i64 (((((ls.take k).flatten.length) : Nat) : Int))) (y_move h3_1) rfl ?_
    refine s_e rfl ?_
    refine e_call (f := 224) (args := #[.slice none 0 0, .int .i64 (((((ls.take k).flatten.length) : Nat) : Int))]) (X := Option Addr × Nat) (A := []) (M := []) (V := slV ([])) (A' := fun x => [slR recV 4 23 ([]) x]) (C := fun x => ([]).length ≤ x.2) Try.call224 (ev2 rfl rfl) (.nil) (fun w hs => (grow_c ((ls.take k).flatten.length) w (by omega)).cap) ?_
    rintro ⟨a_3, c_4⟩ hc5; replace hc5 : ([]).length ≤ c_4 := hc5
    refine s_y (v := .slice a_3 (([]).length) c_4) (y_assign rfl) rfl ?_
    refine wpL_nil ?_
    refine thenS_n ?_
    refine wpS_seq ?_
    refine wpS_seq ?_
    refine wpS_region ?_
    refine s_y (v := .slice sa q cs) (y_move h0_1) rfl ?_
    refine s_y (v := .int .i64 (((q : Nat) : Int))) (y_len (ty' := 0) (at_ := #[]) rfl Try.underlying80) rfl ?_
    refine s_y (v := .int .i64 0) (y_move rfl) rfl ?_
    refine wpL_nil ?_
    refine thenS_n ?_
    refine wpS_block ?_
    refine wpS_loop (fun m ds σ L => ∃ j : Nat, ∃ a1 : Option Addr, ∃ c1 : Nat, m = q - j ∧ j ≤ q ∧ ds = [] ∧ σ 6 = .slice a1 ((ls.take j).flatten.length) c1 ∧ σ 25 = .slice sa q cs ∧ σ 26 = .int .i64 (((q : Nat) : Int)) ∧ σ 27 = .int .i64 (((j : Nat) : Int)) ∧ Ent L [osl a1 c1 (((ls.take j).flatten).length) 4 23 (((ls.take j).flatten).flatMap recV)]) (m0 := q - 0) ⟨0, a_3, c_4, rfl, by omega, rfl, rfl, rfl, rfl, rfl, .p .h .nil⟩ ?_
    rintro m ds σ L ⟨j, a1, c1, hm_6, hf0_6, rfl, h6_6, h25_6, h26_6, h27_6, hE_6⟩
    refine wpS_ent hE_6 ?_; clear hE_6
    refine wpS_seq ?_
    refine wpS_region ?_
    refine s_y (v := .bool (decide (j < q))) (y_lss (a := ((j : Nat) : Int)) (b := ((q : Nat) : Int)) (c := decide (j < q)) h27_6 h26_6 (by simp only [decide_eq_decide]; omega)) rfl ?_
    refine wpL_nil ?_
    refine thenS_n ?_
    refine wpS_seq ?_
    refine wpS_cond (t := decide (j < q)) rfl (fun b7 => ?_) (fun b7 => ?_)
    · -- decide (j < q) true
      have p7 := of_decide_eq_true b7
      refine wpS_skip ?_
      refine thenS_n ?_
      refine wpS_seq ?_
      refine wpS_block ?_
      refine wpS_seq ?_
      refine wpS_region ?_
      refine s_y (v := .pointer (some ⟨aB sa, aO sa + j * 1, none⟩)) (y_idx (o := j * 1) h25_6 h27_6 Try.underlying80 Try.sizeOf69 (oldR hrs) (by rw [fl_len slhV_len]; (try simp only [List.length_set]); omega) (by decide) (by omega) (by omega) (by omega)) rfl ?_
      refine s_y (v := .slice ((hs.getD j default).a) ((hs.getD j default).n) ((hs.getD j default).c)) (y_load1 (v := .slice ((hs.getD j default).a) ((hs.getD j default).n) ((hs.getD j default).c)) rfl Try.isAgg69 (rd1 (oldR hrs) (fl_get0 slhV_len hs j (by omega) rfl))) rfl ?_
      have hnk := (hall j (by omega)).1
      have hk1 : (ls.take j).flatten.length + (ls.getD j []).length = (ls.take (j + 1)).flatten.length := by rw [← flat_succ ls j (by omega), List.length_append]
      have hk2 := flat_le ls (j + 1)
      refine s_y (v := .slice ((hs.getD j default).a) ((hs.getD j default).n) ((hs.getD j default).c)) (y_assign rfl) rfl ?_
      refine wpL_nil ?_
      refine thenS_n ?_
      refine wpS_region ?_
      refine s_y (v := .slice a1 ((ls.take j).flatten.length) c1) (y_move h6_6) rfl ?_
      refine s_y (v := .slice ((hs.getD j default).a) ((hs.getD j default).n) ((hs.getD j default).c)) (y_move rfl) rfl ?_
      refine s_e rfl ?_
      refine e_appendL (enc := recV) (xs := ((ls.take j).flatten : List Rec)) (ns := (ls.getD j [] : List Rec)) (zs := (ls.take (j + 1)).flatten) (bytes := 32) recV_len recV_one Try.underlying69 (i := Try.t23) rfl rfl rfl rfl rfl (by decide) rfl rfl (by first | rfl | omega) (by omega) .h (oldR (hall j (by omega)).2) (flat_succ ls j (by omega)) (by omega) (by omega) ?_
      intro a_8 c_9
      refine s_y (v := .slice a_8 (((ls.take (j + 1)).flatten).length) c_9) (y_assign rfl) rfl ?_
      refine wpL_nil ?_
      refine blockS_n ?_
      refine thenS_n ?_
      refine wpS_region ?_
      refine s_y (v := .int .i64 ((((j + 1) : Nat) : Int))) (y_add (a := ((j : Nat) : Int)) (b := 1) (c := (((j + 1) : Nat) : Int)) h27_6 rfl (wI (by omega) (by omega) (by omega))) rfl ?_
      refine s_y (v := .int .i64 ((((j + 1) : Nat) : Int))) (y_move rfl) rfl ?_
      refine wpL_nil ?_
      refine thenS_n ?_
      exact ⟨_, by omega, ⟨(j + 1), a_8, c_9, rfl, by omega, rfl, rfl, h25_6, h26_6, rfl, .p .h .nil⟩⟩
    · -- decide (j < q) false
      have p7 := of_decide_eq_false b7
      refine wpS_exit ?_
      refine thenS_x ?_
      refine thenS_x ?_
      refine blockS_h ?_
      refine thenS_n ?_
      refine wpS_seq ?_
      refine wpS_region ?_
      refine s_y (v := .slice a1 ((ls.take j).flatten.length) c1) (y_move h6_6) rfl ?_
      refine s_y (v := .slice a1 ((ls.take j).flatten.length) c1) (y_assign rfl) rfl ?_
      refine wpL_nil ?_
      refine thenS_n ?_
      refine wpS_ret ?_
      refine fin1 (M := [osl a1 c1 (((ls.take j).flatten).length) 4 23 (((ls.take j).flatten).flatMap recV)]) (v := .slice a1 ((ls.take j).flatten.length) c1) (.inr rfl) (.p .h .nil) Try.results167 rfl ?_
      exact fun w' hs => ⟨(a1, c1), by rw [show ls.flatten = (ls.take j).flatten from (by rw [List.take_of_length_le (by omega)])], by rw [show ls.flatten = (ls.take j).flatten from (by rw [List.take_of_length_le (by omega)])]; exact hs, trivial⟩

end Go.Proofs.Ytldkjjnjdjfipaa
