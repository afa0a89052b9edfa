/- Bytes one behind the other, walked. -/
import Derived.Test.YtldkjjnjdjfipaaWWir1
import Derived.Test.YtldkjjnjdjfipaaFamb
namespace Go.Proofs.Ytldkjjnjdjfipaa
open Go Go.RowKit
set_option linter.unusedVariables false
set_option linter.unusedSimpArgs false
set_option maxRecDepth 10000
set_option maxHeartbeats 1000000

theorem growB_c (m : Nat) (w : World) (hm : m ≤ 1000000) : MakesS Try.prog 232 #[.slice none 0 0, .int .i64 ((m : Nat) : Int)] w [] byteV 1 5 ([] : List UInt8) := by
  refine calls_S (n := 27) (σ0 := (upd (upd fr0 0 (.slice none 0 0)) 1 (.int .i64 (((m : Nat) : Int))))) (D := []) (A := []) Try.func232 rfl Try.ntmps232 rfl (a2_fr _ _) (SH.start w) ?_
  refine wpS_seq ?_
  refine wpS_region ?_
  refine s_y (v := .slice none 0 0) (y_assign rfl) rfl ?_
  refine wpL_nil ?_
  refine thenS_n ?_
  refine wpS_seq ?_
  refine wpS_seq ?_
  refine wpS_region ?_
  refine s_y (v := .int .i64 (((m : Nat) : Int))) (y_move rfl) rfl ?_
  refine s_y (v := .bool (decide ((m : Nat) < 0))) (y_lss (a := ((m : Nat) : Int)) (b := 0) (c := decide ((m : Nat) < 0)) rfl rfl (decide_eq_decide.2 (by omega))) rfl ?_
  refine wpL_nil ?_
  refine thenS_n ?_
  refine wpS_cond_F (t := decide ((m : Nat) < 0)) rfl (by simp) ?_
  refine wpS_skip ?_
  refine thenS_n ?_
  refine wpS_seq ?_
  refine wpS_seq ?_
  refine wpS_region ?_
  refine s_y (v := .int .i64 (((m : Nat) : Int))) (y_move rfl) rfl ?_
  refine s_y (v := .slice none 0 0) (y_move rfl) rfl ?_
  refine s_y (v := .int .i64 0) (y_cap rfl Try.underlying61) rfl ?_
  refine s_y (v := .slice none 0 0) (y_move rfl) rfl ?_
  refine s_y (v := .int .i64 0) (y_len (ty' := 0) (at_ := #[]) rfl Try.underlying61) rfl ?_
  refine s_y (v := .int .i64 0) (y_sub (a := 0) (b := 0) (c := 0) rfl rfl (by decide)) rfl ?_
  refine s_y (v := .int .i64 (((m : Nat) : Int))) (y_sub (a := ((m : Nat) : Int)) (b := 0) (c := ((m : Nat) : Int)) rfl rfl (wI (by omega) (by omega) (by omega))) rfl ?_
  refine s_y (v := .int .i64 (((m : Nat) : Int))) (y_assign rfl) rfl ?_
  refine wpL_nil ?_
  refine thenS_n ?_
  refine wpS_seq ?_
  refine wpS_region ?_
  refine s_y (v := .int .i64 (((m : Nat) : Int))) (y_move rfl) rfl ?_
  refine s_y (v := .bool (decide ((0 : Nat) < m))) (y_gtr (a := ((m : Nat) : Int)) (b := 0) (c := decide ((0 : Nat) < m)) rfl rfl (decide_eq_decide.2 (by omega))) rfl ?_
  refine wpL_nil ?_
  refine thenS_n ?_
  refine wpS_cond (t := decide ((0 : Nat) < m)) rfl (fun b1 => ?_) (fun b1 => ?_)
  · -- decide ((0 : Nat) < m) true
    have p1 := of_decide_eq_true b1
    refine wpS_region ?_
    refine s_y (v := .slice none 0 0) (y_move rfl) rfl ?_
    refine s_y (v := .slice none 0 0) (y_move rfl) rfl ?_
    refine s_y (v := .int .i64 0) (y_cap rfl Try.underlying61) rfl ?_
    refine s_y (v := .slice none 0 0) (y_sliceH (h' := 0) rfl rfl Try.underlying61 Try.sizeOf5 (by decide) (by decide) (by decide)) rfl ?_
    refine s_y (v := .int .i64 (((m : Nat) : Int))) (y_move rfl) rfl ?_
    refine s_e rfl ?_
    refine e_appendZ0 (bytes := 1) Try.underlying61 Try.underlying3 (i := Try.t5) rfl rfl rfl rfl rfl (by decide) (by decide) rfl rfl (by omega) (by omega) ?_
    intro b_2 c_3
    refine wpL_ent (SH.cut0 .h (by simp)) ?_
    refine s_y (v := .slice none 0 0) (y_move rfl) rfl ?_
    refine s_y (v := .int .i64 0) (y_len (ty' := 0) (at_ := #[]) rfl Try.underlying61) rfl ?_
    refine s_y (v := .slice (some ⟨b_2, 0, none⟩) 0 c_3) (y_sliceH (h' := 0) rfl rfl Try.underlying61 Try.sizeOf5 (by decide) (by omega) (by decide)) rfl ?_
    refine s_y (v := .slice (some ⟨b_2, 0, none⟩) 0 c_3) (y_assign rfl) rfl ?_
    refine wpL_nil ?_
    refine thenS_n ?_
    refine wpS_seq ?_
    refine wpS_region ?_
    refine s_y (v := .slice (some ⟨b_2, 0, none⟩) 0 c_3) (y_move rfl) rfl ?_
    refine s_y (v := .slice (some ⟨b_2, 0, none⟩) 0 c_3) (y_assign rfl) rfl ?_
    refine wpL_nil ?_
    refine thenS_n ?_
    refine wpS_ret ?_
    refine fin1 (M := [osl (some ⟨b_2, 0, none⟩) c_3 0 1 5 ([])]) (v := .slice (some ⟨b_2, 0, none⟩) 0 c_3) (.inr rfl) (.p .h .nil) Try.results232 rfl ?_
    exact fun w' hs => ⟨(some ⟨b_2, 0, none⟩, c_3), rfl, hs, trivial⟩
  · -- decide ((0 : Nat) < m) false
    have p1 := of_decide_eq_false b1
    refine wpS_skip ?_
    refine thenS_n ?_
    refine wpS_seq ?_
    refine wpS_region ?_
    refine s_y (v := .slice none 0 0) (y_move rfl) rfl ?_
    refine s_y (v := .slice none 0 0) (y_assign rfl) rfl ?_
    refine wpL_nil ?_
    refine thenS_n ?_
    refine wpS_ret ?_
    refine finNil (.inr rfl) .nil Try.results232 rfl (sz := 1) (ty := 5) ?_
    exact fun w' hs => ⟨(none, 0), by rw [show [] = [] from rfl]; rfl, by rw [show [] = [] from rfl]; exact hs, trivial⟩

theorem concatB_c (sa : Option Addr) (q cs : Nat) (hs : List SlH) (ls : List (List UInt8)) (w : World) (hm : hs.length = q) (hl : ls.length = q) (hrs : Rds w sa (hs.flatMap slhV)) (hall : ∀ k, k < q → (ls.getD k []).length = (hs.getD k default).n ∧ Rds w (hs.getD k default).a ((ls.getD k []).flatMap byteV)) (hb : ls.flatten.length ≤ 1000000) (hqq : q ≤ 1000) : MakesS Try.prog 187 #[.slice sa q cs] w [] byteV 1 5 ls.flatten := by
  refine calls_S (n := 36) (σ0 := (upd fr0 0 (.slice sa q cs))) (D := []) (A := []) Try.func187 rfl Try.ntmps187 rfl (a1_fr _) (SH.start w) ?_
  refine wpS_seq ?_
  refine wpS_region ?_
  refine s_y (v := .slice none 0 0) (y_assign rfl) rfl ?_
  refine wpL_nil ?_
  refine thenS_n ?_
  refine wpS_seq ?_
  refine wpS_region ?_
  refine s_y (v := .int .i64 0) (y_assign rfl) rfl ?_
  refine wpL_nil ?_
  refine thenS_n ?_
  refine wpS_seq ?_
  refine wpS_seq ?_
  refine wpS_region ?_
  refine s_y (v := .slice sa q cs) (y_move rfl) rfl ?_
  refine s_y (v := .int .i64 (((q : Nat) : Int))) (y_len (ty' := 0) (at_ := #[]) rfl Try.underlying263) rfl ?_
  refine s_y (v := .int .i64 0) (y_move rfl) rfl ?_
  refine wpL_nil ?_
  refine thenS_n ?_
  refine wpS_block ?_
  refine wpS_loop (fun mez ds σ L => ∃ k : Nat, mez = q - k ∧ (k ≤ q) ∧ ((ls.take k).flatten.length ≤ 1000000) ∧ ds = [] ∧ σ 0 = .slice sa q cs ∧ σ 3 = .int .i64 (((((ls.take k).flatten.length) : Nat) : Int)) ∧ σ 9 = .slice sa q cs ∧ σ 10 = .int .i64 (((q : Nat) : Int)) ∧ σ 11 = .int .i64 (((k : Nat) : Int)) ∧ Ent L []) (m0 := q - 0) ⟨0, rfl, by omega, (by simp), rfl, rfl, (congrArg (Value.int .i64) (by first | omega | (simp; done))), rfl, rfl, rfl, .nil⟩ ?_
  rintro mez ds σ L ⟨k, hm_1, hf0_1, hf1_1, rfl, h0_1, h3_1, h9_1, h10_1, h11_1, hE_1⟩
  refine wpS_ent hE_1 ?_; clear hE_1
  refine wpS_seq ?_
  refine wpS_region ?_
  refine s_y (v := .bool (decide (k < q))) (y_lss (a := ((k : Nat) : Int)) (b := ((q : Nat) : Int)) (c := decide (k < q)) h11_1 h10_1 (decide_eq_decide.2 (by omega))) rfl ?_
  refine wpL_nil ?_
  refine thenS_n ?_
  refine wpS_seq ?_
  refine wpS_cond (t := decide (k < q)) rfl (fun b2 => ?_) (fun b2 => ?_)
  · -- decide (k < q) true
    have p2 := of_decide_eq_true b2
    refine wpS_skip ?_
    refine thenS_n ?_
    refine wpS_seq ?_
    refine wpS_block ?_
    refine wpS_seq ?_
    refine wpS_region ?_
    refine s_y (v := .pointer (some ⟨aB sa, aO sa + k * 1, none⟩)) (y_idx (o := k * 1) h9_1 h11_1 Try.underlying263 Try.sizeOf61 (oldR hrs) ((fl_len slhV_len _).trans (by first | omega | (simp only [List.length_set, List.length_take, List.length_drop]; done) | (simp only [List.length_set, List.length_take, List.length_drop]; omega))) (by decide) (by omega) (by omega) (by omega)) rfl ?_
    refine s_y (v := .slice ((hs.getD k default).a) ((hs.getD k default).n) ((hs.getD k default).c)) (y_load1 (v := .slice ((hs.getD k default).a) ((hs.getD k default).n) ((hs.getD k default).c)) rfl Try.isAgg61 (rd1 (k := k * 1) (oldR hrs) (fl_get0 slhV_len hs k (by first | omega | (simp only [List.length_set, List.length_take, List.length_drop]; done) | (simp only [List.length_set, List.length_take, List.length_drop]; omega)) rfl))) rfl ?_
    have hnk := (hall k (by omega)).1
    have hk1 : (ls.take k).flatten.length + (ls.getD k []).length = (ls.take (k + 1)).flatten.length := by rw [← flat_succ ls k (by omega), List.length_append]
    have hk2 := flat_le ls (k + 1)
    refine s_y (v := .slice ((hs.getD k default).a) ((hs.getD k default).n) ((hs.getD k default).c)) (y_assign rfl) rfl ?_
    refine wpL_nil ?_
    refine thenS_n ?_
    refine wpS_seq ?_
    refine wpS_region ?_
    refine s_y (v := .int .i64 (((((ls.take k).flatten.length) : Nat) : Int))) (y_move h3_1) rfl ?_
    refine s_y (v := .slice ((hs.getD k default).a) ((hs.getD k default).n) ((hs.getD k default).c)) (y_move rfl) rfl ?_
    refine s_y (v := .int .i64 ((((hs.getD k default).n : Nat) : Int))) (y_len (ty' := 0) (at_ := #[]) rfl Try.underlying61) rfl ?_
    refine s_y (v := .int .i64 ((((((ls.take k).flatten.length) + (hs.getD k default).n) : Nat) : Int))) (y_add (a := ((((ls.take k).flatten.length) : Nat) : Int)) (b := (((hs.getD k default).n : Nat) : Int)) (c := (((((ls.take k).flatten.length) + (hs.getD k default).n) : Nat) : Int)) rfl rfl (wI (by omega) (by omega) (by omega))) rfl ?_
    refine s_y (v := .int .i64 ((((((ls.take k).flatten.length) + (hs.getD k default).n) : Nat) : Int))) (y_assign rfl) rfl ?_
    refine wpL_nil ?_
    refine thenS_n ?_
    refine wpS_seq ?_
    refine wpS_region ?_
    refine s_y (v := .int .i64 ((((((ls.take k).flatten.length) + (hs.getD k default).n) : Nat) : Int))) (y_move rfl) rfl ?_
    refine s_y (v := .bool (decide (((((ls.take k).flatten.length) + (hs.getD k default).n) : Nat) < 0))) (y_lss (a := (((((ls.take k).flatten.length) + (hs.getD k default).n) : Nat) : Int)) (b := 0) (c := decide (((((ls.take k).flatten.length) + (hs.getD k default).n) : Nat) < 0)) rfl rfl (decide_eq_decide.2 (by omega))) rfl ?_
    refine wpL_nil ?_
    refine thenS_n ?_
    refine wpS_cond_F (t := decide (((((ls.take k).flatten.length) + (hs.getD k default).n) : Nat) < 0)) rfl (by simp) ?_
    refine wpS_skip ?_
    refine blockS_n ?_
    refine thenS_n ?_
    refine wpS_region ?_
    refine s_y (v := .int .i64 ((((k + 1) : Nat) : Int))) (y_add (a := ((k : Nat) : Int)) (b := 1) (c := (((k + 1) : Nat) : Int)) h11_1 rfl (wI (by omega) (by omega) (by omega))) rfl ?_
    refine s_y (v := .int .i64 ((((k + 1) : Nat) : Int))) (y_move rfl) rfl ?_
    refine wpL_nil ?_
    refine thenS_n ?_
    exact ⟨_, by omega, ⟨(k + 1), rfl, by omega, by omega, rfl, h0_1, (congrArg (Value.int .i64) (by first | omega | (simp; done))), h9_1, h10_1, rfl, .nil⟩⟩
  · -- decide (k < q) false
    have p2 := of_decide_eq_false b2
    refine wpS_exit ?_
    refine thenS_x ?_
    refine thenS_x ?_
    refine blockS_h ?_
    refine thenS_n ?_
    refine wpS_seq ?_
    refine wpS_region ?_
    refine s_y (v := .int .i64 (((((ls.take k).flatten.length) : Nat) : Int))) (y_move h3_1) rfl ?_
    refine s_e rfl ?_
    refine e_call (f := 232) (args := #[.slice none 0 0, .int .i64 (((((ls.take k).flatten.length) : Nat) : Int))]) (X := Option Addr × Nat) (A := []) (M := []) (V := slV ([])) (A' := fun x => [slR byteV 1 5 ([]) x]) (C := fun x => ([]).length ≤ x.2) Try.call232 (ev2 rfl rfl) (.nil) (fun w hs => (growB_c ((ls.take k).flatten.length) w (by omega)).cap) ?_
    rintro ⟨a_3, c_4⟩ hc5; replace hc5 : ([]).length ≤ c_4 := hc5
    refine s_y (v := .slice a_3 (([]).length) c_4) (y_assign rfl) rfl ?_
    refine wpL_nil ?_
    refine thenS_n ?_
    refine wpS_seq ?_
    refine wpS_seq ?_
    refine wpS_region ?_
    refine s_y (v := .slice sa q cs) (y_move h0_1) rfl ?_
    refine s_y (v := .int .i64 (((q : Nat) : Int))) (y_len (ty' := 0) (at_ := #[]) rfl Try.underlying263) rfl ?_
    refine s_y (v := .int .i64 0) (y_move rfl) rfl ?_
    refine wpL_nil ?_
    refine thenS_n ?_
    refine wpS_block ?_
    refine wpS_loop (fun mez ds σ L => ∃ j : Nat, ∃ a1 : Option Addr, ∃ c1 : Nat, mez = q - j ∧ (j ≤ q) ∧ ds = [] ∧ σ 6 = .slice a1 ((ls.take j).flatten.length) c1 ∧ σ 25 = .slice sa q cs ∧ σ 26 = .int .i64 (((q : Nat) : Int)) ∧ σ 27 = .int .i64 (((j : Nat) : Int)) ∧ Ent L [osl a1 c1 (((ls.take j).flatten).length) 1 5 (((ls.take j).flatten).flatMap byteV)]) (m0 := q - 0) ⟨0, a_3, c_4, rfl, by omega, rfl, rfl, rfl, rfl, rfl, .p .h .nil⟩ ?_
    rintro mez ds σ L ⟨j, a1, c1, hm_6, hf0_6, rfl, h6_6, h25_6, h26_6, h27_6, hE_6⟩
    refine wpS_ent hE_6 ?_; clear hE_6
    refine wpS_seq ?_
    refine wpS_region ?_
    refine s_y (v := .bool (decide (j < q))) (y_lss (a := ((j : Nat) : Int)) (b := ((q : Nat) : Int)) (c := decide (j < q)) h27_6 h26_6 (decide_eq_decide.2 (by omega))) rfl ?_
    refine wpL_nil ?_
    refine thenS_n ?_
    refine wpS_seq ?_
    refine wpS_cond (t := decide (j < q)) rfl (fun b7 => ?_) (fun b7 => ?_)
    · -- decide (j < q) true
      have p7 := of_decide_eq_true b7
      refine wpS_skip ?_
      refine thenS_n ?_
      refine wpS_seq ?_
      refine wpS_block ?_
      refine wpS_seq ?_
      refine wpS_region ?_
      refine s_y (v := .pointer (some ⟨aB sa, aO sa + j * 1, none⟩)) (y_idx (o := j * 1) h25_6 h27_6 Try.underlying263 Try.sizeOf61 (oldR hrs) ((fl_len slhV_len _).trans (by first | omega | (simp only [List.length_set, List.length_take, List.length_drop]; done) | (simp only [List.length_set, List.length_take, List.length_drop]; omega))) (by decide) (by omega) (by omega) (by omega)) rfl ?_
      refine s_y (v := .slice ((hs.getD j default).a) ((hs.getD j default).n) ((hs.getD j default).c)) (y_load1 (v := .slice ((hs.getD j default).a) ((hs.getD j default).n) ((hs.getD j default).c)) rfl Try.isAgg61 (rd1 (k := j * 1) (oldR hrs) (fl_get0 slhV_len hs j (by first | omega | (simp only [List.length_set, List.length_take, List.length_drop]; done) | (simp only [List.length_set, List.length_take, List.length_drop]; omega)) rfl))) rfl ?_
      have hnk := (hall j (by omega)).1
      have hk1 : (ls.take j).flatten.length + (ls.getD j []).length = (ls.take (j + 1)).flatten.length := by rw [← flat_succ ls j (by omega), List.length_append]
      have hk2 := flat_le ls (j + 1)
      refine s_y (v := .slice ((hs.getD j default).a) ((hs.getD j default).n) ((hs.getD j default).c)) (y_assign rfl) rfl ?_
      refine wpL_nil ?_
      refine thenS_n ?_
      refine wpS_region ?_
      refine s_y (v := .slice a1 ((ls.take j).flatten.length) c1) (y_move h6_6) rfl ?_
      refine s_y (v := .slice ((hs.getD j default).a) ((hs.getD j default).n) ((hs.getD j default).c)) (y_move rfl) rfl ?_
      refine s_e rfl ?_
      refine e_appendL (enc := byteV) (xs := ((ls.take j).flatten : List UInt8)) (ns := (ls.getD j [] : List UInt8)) (zs := (ls.take (j + 1)).flatten) (bytes := 1) byteV_len byteV_one Try.underlying61 (i := Try.t5) rfl rfl rfl rfl rfl (by decide) rfl rfl (by first | rfl | omega) (by omega) .h (oldR (hall j (by omega)).2) (flat_succ ls j (by omega)) (by omega) (by omega) ?_
      intro a_8 c_9
      refine s_y (v := .slice a_8 (((ls.take (j + 1)).flatten).length) c_9) (y_assign rfl) rfl ?_
      refine wpL_nil ?_
      refine blockS_n ?_
      refine thenS_n ?_
      refine wpS_region ?_
      refine s_y (v := .int .i64 ((((j + 1) : Nat) : Int))) (y_add (a := ((j : Nat) : Int)) (b := 1) (c := (((j + 1) : Nat) : Int)) h27_6 rfl (wI (by omega) (by omega) (by omega))) rfl ?_
      refine s_y (v := .int .i64 ((((j + 1) : Nat) : Int))) (y_move rfl) rfl ?_
      refine wpL_nil ?_
      refine thenS_n ?_
      exact ⟨_, by omega, ⟨(j + 1), a_8, c_9, rfl, by omega, rfl, rfl, h25_6, h26_6, rfl, .p .h .nil⟩⟩
    · -- decide (j < q) false
      have p7 := of_decide_eq_false b7
      refine wpS_exit ?_
      refine thenS_x ?_
      refine thenS_x ?_
      refine blockS_h ?_
      refine thenS_n ?_
      refine wpS_seq ?_
      refine wpS_region ?_
      refine s_y (v := .slice a1 ((ls.take j).flatten.length) c1) (y_move h6_6) rfl ?_
      refine s_y (v := .slice a1 ((ls.take j).flatten.length) c1) (y_assign rfl) rfl ?_
      refine wpL_nil ?_
      refine thenS_n ?_
      refine wpS_ret ?_
      refine fin1 (M := [osl a1 c1 (((ls.take j).flatten).length) 1 5 (((ls.take j).flatten).flatMap byteV)]) (v := .slice a1 ((ls.take j).flatten.length) c1) (.inr rfl) (.p .h .nil) Try.results187 rfl ?_
      exact fun w' hs => ⟨(a1, c1), by rw [show ls.flatten = (ls.take j).flatten from (by rw [List.take_of_length_le (by omega)])], by rw [show ls.flatten = (ls.take j).flatten from (by rw [List.take_of_length_le (by omega)])]; exact hs, trivial⟩

theorem twoB_all {w : World} {la lb : List UInt8} {h0 h1 : SlH} (x : la.length = h0.n ∧ Rds w h0.a (la.flatMap byteV)) (y : lb.length = h1.n ∧ Rds w h1.a (lb.flatMap byteV)) :
    ∀ k, k < 2 → (([la, lb] : List (List UInt8)).getD k []).length = (([h0, h1] : List SlH).getD k default).n ∧ Rds w (([h0, h1] : List SlH).getD k default).a ((([la, lb] : List (List UInt8)).getD k []).flatMap byteV)
  | 0, _ => x
  | 1, _ => y
theorem concat2_c (sb b0 : Nat) (a : Option Addr) (n c : Nat) (d : List UInt8) (w : World) (hrs : Rds w (some ⟨sb, 0, none⟩) [.slice (some ⟨b0, 0, none⟩) 0 0, .slice a n c]) (hn : d.length = n) (hr : Rds w a (d.flatMap byteV)) (hb : n ≤ 1000000) :
    MakesS Try.prog 187 #[.slice (some ⟨sb, 0, none⟩) 2 2] w [] byteV 1 5 d := by
  have h := concatB_c (some ⟨sb, 0, none⟩) 2 2 [⟨some ⟨b0, 0, none⟩, 0, 0⟩, ⟨a, n, c⟩] [[], d] w rfl rfl hrs (twoB_all ⟨rfl, Rds.nil _ _⟩ ⟨hn, hr⟩) (by simp; omega) (by decide)
  rw [show ([[], d] : List (List UInt8)).flatten = d by simp] at h
  exact h

end Go.Proofs.Ytldkjjnjdjfipaa
