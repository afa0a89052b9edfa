/- Letters of a box let go; a fork; walked. -/
import Derived.Test.YtldkjjnjdjfipaaWWir5
import Derived.Test.YtldkjjnjdjfipaaP19f
import Derived.Test.YtldkjjnjdjfipaaDel2
namespace Go.Proofs.Ytldkjjnjdjfipaa
open Go Go.RowKit
set_option linter.unusedVariables false
set_option linter.unusedSimpArgs false
set_option maxRecDepth 10000
set_option maxHeartbeats 1000000

theorem is_c (x : Let) (cb : Nat) (t : Int) (w : World) (hc : w.cell? ⟨cb, 0, none⟩ = some (.int .i64 t)) : Pure Try.prog 199 #[.agg #[.int .i64 (x.to), .slice x.a x.n x.c], .pointer (some ⟨cb, 0, none⟩)] w (.bool ((decide (x.to = t)))) := by
  refine calls_S (n := 8) (σ0 := (upd (upd fr0 0 (.agg #[.int .i64 (x.to), .slice x.a x.n x.c])) 1 (.pointer (some ⟨cb, 0, none⟩)))) (D := []) (A := []) Try.func199 rfl Try.ntmps199 rfl (a2_fr _ _) (SH.start w) ?_
  refine wpS_seq ?_
  refine wpS_region ?_
  refine s_e rfl ?_
  refine e_box (v := .agg #[.int .i64 (x.to), .slice x.a x.n x.c]) (l := [.int .i64 (x.to), .slice x.a x.n x.c]) rfl rfl ?_
  intro b_1
  refine s_y (v := .bool false) (y_assign rfl) rfl ?_
  refine wpL_nil ?_
  refine thenS_n ?_
  refine wpS_seq ?_
  refine wpS_region ?_
  refine s_y (v := .pointer (some ⟨b_1, 0, none⟩)) (y_fieldAddr (o' := 0) rfl Try.underlying218 rfl Try.sizeOf3 (by decide) rfl) rfl ?_
  refine s_y (v := .int .i64 (x.to)) (y_load1 rfl Try.isAgg3 (own1 .h rfl)) rfl ?_
  refine s_y (v := .int .i64 t) (y_load1 (v := .int .i64 t) rfl Try.isAgg3 (old1 hc (by simp))) rfl ?_
  refine s_y (v := .bool (decide ((x.to : Int) = t))) (y_eql (a := x.to) (b := t) rfl rfl rfl) rfl ?_
  refine s_y (v := .bool (decide ((x.to : Int) = t))) (y_assign rfl) rfl ?_
  refine wpL_nil ?_
  refine thenS_n ?_
  refine wpS_ret ?_
  refine fin1 (M := []) (v := .bool (decide ((x.to : Int) = t))) (.inr rfl) (.nil) Try.results199 rfl ?_
  exact fun w' hs => ⟨rfl, hs⟩

theorem idx_c (a : Option Addr) (n c : Nat) (l : List Let) (cb : Nat) (t : Int) (w : World) (hn : l.length = n) (hr : Rds w a (l.flatMap letV)) (hb : n ≤ 1000000) (hc : w.cell? ⟨cb, 0, none⟩ = some (.int .i64 t)) : Pure Try.prog 235 #[.slice a n c, .func (.func 199) #[] #[.pointer (some ⟨cb, 0, none⟩)]] w (.int .i64 ((idT t l))) := by
  refine calls_S (n := 19) (σ0 := (upd (upd fr0 0 (.slice a n c)) 1 (.func (.func 199) #[] #[.pointer (some ⟨cb, 0, none⟩)]))) (D := []) (A := []) Try.func235 rfl Try.ntmps235 rfl (a2_fr _ _) (SH.start w) ?_
  refine wpS_seq ?_
  refine wpS_region ?_
  refine s_y (v := .int .i64 0) (y_assign rfl) rfl ?_
  refine wpL_nil ?_
  refine thenS_n ?_
  refine wpS_seq ?_
  refine wpS_seq ?_
  refine wpS_region ?_
  refine s_y (v := .slice a n c) (y_move rfl) rfl ?_
  refine s_y (v := .int .i64 (((n : Nat) : Int))) (y_len (ty' := 0) (at_ := #[]) rfl Try.underlying213) rfl ?_
  refine s_y (v := .int .i64 0) (y_move rfl) rfl ?_
  refine wpL_nil ?_
  refine thenS_n ?_
  refine wpS_block ?_
  refine wpS_loop (fun mez ds σ L => ∃ k : Nat, mez = n - k ∧ (k ≤ n) ∧ (NoT t l k) ∧ ds = [] ∧ σ 0 = .slice a n c ∧ σ 1 = .func (.func 199) #[] #[.pointer (some ⟨cb, 0, none⟩)] ∧ σ 7 = .int .i64 (((n : Nat) : Int)) ∧ σ 8 = .int .i64 (((k : Nat) : Int)) ∧ Ent L []) (m0 := n - 0) ⟨0, rfl, by omega, (noT_0 t l), rfl, rfl, rfl, rfl, rfl, .nil⟩ ?_
  rintro mez ds σ L ⟨k, hm_1, hf0_1, hf1_1, rfl, h0_1, h1_1, h7_1, h8_1, hE_1⟩
  refine wpS_ent hE_1 ?_; clear hE_1
  refine wpS_seq ?_
  refine wpS_region ?_
  refine s_y (v := .bool (decide (k < n))) (y_lss (a := ((k : Nat) : Int)) (b := ((n : Nat) : Int)) (c := decide (k < n)) h8_1 h7_1 (decide_eq_decide.2 (by omega))) rfl ?_
  refine wpL_nil ?_
  refine thenS_n ?_
  refine wpS_seq ?_
  refine wpS_cond (t := decide (k < n)) rfl (fun b2 => ?_) (fun b2 => ?_)
  · -- decide (k < n) true
    have p2 := of_decide_eq_true b2
    refine wpS_skip ?_
    refine thenS_n ?_
    refine wpS_seq ?_
    refine wpS_block ?_
    refine wpS_seq ?_
    refine wpS_region ?_
    refine s_y (v := .int .i64 (((k : Nat) : Int))) (y_move h8_1) rfl ?_
    refine s_y (v := .int .i64 (((k : Nat) : Int))) (y_assign rfl) rfl ?_
    refine wpL_nil ?_
    refine thenS_n ?_
    refine wpS_seq ?_
    refine wpS_region ?_
    refine s_y (v := .func (.func 199) #[] #[.pointer (some ⟨cb, 0, none⟩)]) (y_move h1_1) rfl ?_
    refine s_y (v := .slice a n c) (y_move h0_1) rfl ?_
    refine s_y (v := .int .i64 (((k : Nat) : Int))) (y_move rfl) rfl ?_
    refine s_y (v := .pointer (some ⟨aB a, aO a + k * 2, none⟩)) (y_idx (o := k * 2) rfl rfl Try.underlying213 Try.sizeOf218 (oldR hr) ((fl_len letV_len _).trans (by first | omega | (simp only [List.length_set, List.length_take, List.length_drop]; done) | (simp only [List.length_set, List.length_take, List.length_drop]; omega))) (by decide) (by omega) (by omega) (by omega)) rfl ?_
    refine s_y (v := .agg #[.int .i64 ((l.getD k default).to), .slice ((l.getD k default).a) ((l.getD k default).n) ((l.getD k default).c)]) (y_loadN (vs := letV (l.getD k default)) rfl Try.isAgg218 Try.sizeOf218 (rdN (oldR hr) (fl_getN letV_len l k (by first | omega | (simp only [List.length_set, List.length_take, List.length_drop]; done) | (simp only [List.length_set, List.length_take, List.length_drop]; omega))))) rfl ?_
    refine s_y (v := .bool (decide ((l.getD k default).to = t))) (y_callV (cap := #[.pointer (some ⟨cb, 0, none⟩)]) (args := #[.agg #[.int .i64 ((l.getD k default).to), .slice ((l.getD k default).a) ((l.getD k default).n) ((l.getD k default).c)]]) (args' := #[.agg #[.int .i64 ((l.getD k default).to), .slice ((l.getD k default).a) ((l.getD k default).n) ((l.getD k default).c)], .pointer (some ⟨cb, 0, none⟩)]) (v := .bool (decide ((l.getD k default).to = t))) rfl Try.call199 (ev1 rfl) rfl (fun w hs => is_c (l.getD k default) cb t w ((old1 hc (by simp)) w hs))) rfl ?_
    refine wpL_nil ?_
    refine thenS_n ?_
    refine wpS_cond (t := decide ((l.getD k default).to = t)) rfl (fun b3 => ?_) (fun b3 => ?_)
    · -- decide ((l.getD k default).to = t) true
      have p3 := of_decide_eq_true b3
      refine wpS_seq ?_
      refine wpS_region ?_
      refine s_y (v := .int .i64 (((k : Nat) : Int))) (y_move rfl) rfl ?_
      refine s_y (v := .int .i64 (((k : Nat) : Int))) (y_assign rfl) rfl ?_
      refine wpL_nil ?_
      refine thenS_n ?_
      refine wpS_ret ?_
      refine blockS_r ?_
      refine thenS_r ?_
      refine thenS_r ?_
      refine blockS_r ?_
      refine thenS_r ?_
      refine fin1 (M := []) (v := .int .i64 (((k : Nat) : Int))) (.inr rfl) (.nil) Try.results235 rfl ?_
      exact fun w' hs => ⟨congrArg (fun z : Int => Ending.returned (.int .i64 z)) (id_at (by assumption) (by omega) (by assumption)), hs⟩
    · -- decide ((l.getD k default).to = t) false
      have p3 := of_decide_eq_false b3
      refine wpS_skip ?_
      refine blockS_n ?_
      refine thenS_n ?_
      refine wpS_region ?_
      refine s_y (v := .int .i64 ((((k + 1) : Nat) : Int))) (y_add (a := ((k : Nat) : Int)) (b := 1) (c := (((k + 1) : Nat) : Int)) h8_1 rfl (wI (by omega) (by omega) (by omega))) rfl ?_
      refine s_y (v := .int .i64 ((((k + 1) : Nat) : Int))) (y_move rfl) rfl ?_
      refine wpL_nil ?_
      refine thenS_n ?_
      exact ⟨_, by omega, ⟨(k + 1), rfl, by omega, (noT_step (by assumption) (by assumption)), rfl, h0_1, h1_1, h7_1, rfl, .nil⟩⟩
  · -- decide (k < n) false
    have p2 := of_decide_eq_false b2
    refine wpS_exit ?_
    refine thenS_x ?_
    refine thenS_x ?_
    refine blockS_h ?_
    refine thenS_n ?_
    refine wpS_seq ?_
    refine wpS_region ?_
    refine s_y (v := .int .i64 (-1)) (y_assign rfl) rfl ?_
    refine wpL_nil ?_
    refine thenS_n ?_
    refine wpS_ret ?_
    refine fin1 (M := []) (v := .int .i64 (-1)) (.inr rfl) (.nil) Try.results235 rfl ?_
    exact fun w' hs => ⟨congrArg (fun z : Int => Ending.returned (.int .i64 z)) (id_no (k := k) (by assumption) (by omega)), hs⟩

theorem idx1_c {i0 : Nat} (a : Option Addr) (n c : Nat) (l : List Let) (cb : Nat) (t : Int) (w : World) (hn : l.length = n) (hr : Rds w a (l.flatMap letV)) (hb : n ≤ 1000000) (hc : w.cell? ⟨cb, 0, none⟩ = some (.int .i64 t)) (hi0 : fdT t l = i0) (hil : i0 < l.length) : Pure Try.prog 235 #[.slice a n c, .func (.func 199) #[] #[.pointer (some ⟨cb, 0, none⟩)]] w (.int .i64 ((i0 : Nat) : Int)) := by
  have h := idx_c a n c l cb t w hn hr hb hc
  have e : idT t l = ((i0 : Nat) : Int) := by unfold idT; rw [hi0, if_pos hil]
  rw [e] at h
  exact h
theorem idx0_c (a : Option Addr) (n c : Nat) (l : List Let) (cb : Nat) (t : Int) (w : World) (hn : l.length = n) (hr : Rds w a (l.flatMap letV)) (hb : n ≤ 1000000) (hc : w.cell? ⟨cb, 0, none⟩ = some (.int .i64 t)) (hno : ¬ fdT t l < l.length) : Pure Try.prog 235 #[.slice a n c, .func (.func 199) #[] #[.pointer (some ⟨cb, 0, none⟩)]] w (.int .i64 (-1)) := by
  have h := idx_c a n c l cb t w hn hr hb hc
  have e : idT t l = -1 := by unfold idT; rw [if_neg hno]
  rw [e] at h
  exact h

theorem del0_c (a : Option Addr) (n c : Nat) (l : List Let) (cb : Nat) (t : Int) (w : World) (hn : l.length = n) (hb : n ≤ 1000000) (hA : SH w (([cel cb 3 [.int .i64 t], osl a c n 2 218 (l.flatMap letV)] : List Res).flatMap Res.fp) [cel cb 3 [.int .i64 t], osl a c n 2 218 (l.flatMap letV)] w) (hno : ¬ fdT t l < l.length) : Calls Try.prog 198 #[.slice a n c, .func (.func 199) #[] #[.pointer (some ⟨cb, 0, none⟩)]] w (fun e w' => e = .returned (.slice a (kpT t l).length c) ∧ SH w (([cel cb 3 [.int .i64 t], osl a c n 2 218 (l.flatMap letV)] : List Res).flatMap Res.fp) [cel cb 3 [.int .i64 t], osl a c (kpT t l).length 2 218 ((kpT t l).flatMap letV)] w') := by
  refine calls_S (n := 42) (σ0 := (upd (upd fr0 0 (.slice a n c)) 1 (.func (.func 199) #[] #[.pointer (some ⟨cb, 0, none⟩)]))) (D := (([cel cb 3 [.int .i64 t], osl a c n 2 218 (l.flatMap letV)] : List Res).flatMap Res.fp)) (A := [cel cb 3 [.int .i64 t], osl a c n 2 218 (l.flatMap letV)]) Try.func198 rfl Try.ntmps198 rfl (a2_fr _ _) hA ?_
  refine wpS_seq ?_
  refine wpS_region ?_
  refine s_y (v := .slice none 0 0) (y_assign rfl) rfl ?_
  refine wpL_nil ?_
  refine thenS_n ?_
  refine wpS_seq ?_
  refine wpS_region ?_
  refine s_y (v := .slice a n c) (y_move rfl) rfl ?_
  refine s_y (v := .func (.func 199) #[] #[.pointer (some ⟨cb, 0, none⟩)]) (y_move rfl) rfl ?_
  refine s_y (v := .int .i64 (-1)) (y_call (args := #[.slice a n c, .func (.func 199) #[] #[.pointer (some ⟨cb, 0, none⟩)]]) (v := .int .i64 (-1)) Try.call235 (ev2 rfl rfl) (fun w hs => idx0_c a n c l cb t w (by first | rfl | (simp only [List.length_set]; done) | omega) (oslR (.t .h) w hs) (by omega) ((own1 .h rfl) w hs) hno)) rfl ?_
  refine s_y (v := .int .i64 (-1)) (y_assign rfl) rfl ?_
  refine wpL_nil ?_
  refine thenS_n ?_
  refine wpS_seq ?_
  refine wpS_seq ?_
  refine wpS_region ?_
  refine s_y (v := .int .i64 (-1)) (y_move rfl) rfl ?_
  refine s_y (v := .bool true) (y_eql (a := -1) (b := -1) (c := true) rfl rfl (by decide)) rfl ?_
  refine wpL_nil ?_
  refine thenS_n ?_
  refine wpS_cond_t rfl ?_
  refine wpS_seq ?_
  refine wpS_region ?_
  refine s_y (v := .slice a n c) (y_move rfl) rfl ?_
  refine s_y (v := .slice a n c) (y_assign rfl) rfl ?_
  refine wpL_nil ?_
  refine thenS_n ?_
  refine wpS_ret ?_
  refine thenS_r ?_
  refine fin1 (M := [cel cb 3 [.int .i64 t], osl a c n 2 218 (l.flatMap letV)]) (v := .slice a n c) (.inr rfl) (.p .h (.p .h .nil)) Try.results198 rfl ?_
  exact fun w' hs => ⟨by rw [kp_no0 hno, hn], by rw [kp_no0 hno, hn]; exact hs⟩

theorem del1_c (a : Option Addr) (n c : Nat) (l : List Let) (cb : Nat) (t : Int) (w : World) (hn : l.length = n) (hb : n ≤ 1000000) (hA : SH w (([cel cb 3 [.int .i64 t], osl a c n 2 218 (l.flatMap letV)] : List Res).flatMap Res.fp) [cel cb 3 [.int .i64 t], osl a c n 2 218 (l.flatMap letV)] w) {i0 : Nat} (hi0 : fdT t l = i0) (hil : i0 < l.length) : Calls Try.prog 198 #[.slice a n c, .func (.func 199) #[] #[.pointer (some ⟨cb, 0, none⟩)]] w (fun e w' => e = .returned (.slice a (kpT t l).length c) ∧ SH w (([cel cb 3 [.int .i64 t], osl a c n 2 218 (l.flatMap letV)] : List Res).flatMap Res.fp) [cel cb 3 [.int .i64 t], osl a c (kpT t l).length 2 218 ((kpT t l).flatMap letV)] w') := by
  refine calls_S (n := 42) (σ0 := (upd (upd fr0 0 (.slice a n c)) 1 (.func (.func 199) #[] #[.pointer (some ⟨cb, 0, none⟩)]))) (D := (([cel cb 3 [.int .i64 t], osl a c n 2 218 (l.flatMap letV)] : List Res).flatMap Res.fp)) (A := [cel cb 3 [.int .i64 t], osl a c n 2 218 (l.flatMap letV)]) Try.func198 rfl Try.ntmps198 rfl (a2_fr _ _) hA ?_
  refine wpS_cap (.t .h) (fun hcap => ?_)
  refine wpS_seq ?_
  refine wpS_region ?_
  refine s_y (v := .slice none 0 0) (y_assign rfl) rfl ?_
  refine wpL_nil ?_
  refine thenS_n ?_
  refine wpS_seq ?_
  refine wpS_region ?_
  refine s_y (v := .slice a n c) (y_move rfl) rfl ?_
  refine s_y (v := .func (.func 199) #[] #[.pointer (some ⟨cb, 0, none⟩)]) (y_move rfl) rfl ?_
  refine s_y (v := .int .i64 (((i0 : Nat) : Int))) (y_call (args := #[.slice a n c, .func (.func 199) #[] #[.pointer (some ⟨cb, 0, none⟩)]]) (v := .int .i64 (((i0 : Nat) : Int))) Try.call235 (ev2 rfl rfl) (fun w hs => idx1_c a n c l cb t w (by first | rfl | (simp only [List.length_set]; done) | omega) (oslR (.t .h) w hs) (by omega) ((own1 .h rfl) w hs) hi0 hil)) rfl ?_
  refine s_y (v := .int .i64 (((i0 : Nat) : Int))) (y_assign rfl) rfl ?_
  refine wpL_nil ?_
  refine thenS_n ?_
  refine wpS_seq ?_
  refine wpS_seq ?_
  refine wpS_region ?_
  refine s_y (v := .int .i64 (((i0 : Nat) : Int))) (y_move rfl) rfl ?_
  refine s_y (v := .bool false) (y_eql (a := ((i0 : Nat) : Int)) (b := -1) (c := false) rfl rfl (decide_eq_false (by omega))) rfl ?_
  refine wpL_nil ?_
  refine thenS_n ?_
  refine wpS_cond_f rfl ?_
  refine wpS_skip ?_
  refine thenS_n ?_
  refine wpS_seq ?_
  refine wpS_seq ?_
  refine wpS_region ?_
  refine s_y (v := .int .i64 (((i0 : Nat) : Int))) (y_move rfl) rfl ?_
  refine s_y (v := .int .i64 ((((i0 + 1) : Nat) : Int))) (y_add (a := ((i0 : Nat) : Int)) (b := 1) (c := (((i0 + 1) : Nat) : Int)) rfl rfl (wI (by omega) (by omega) (by omega))) rfl ?_
  refine s_y (v := .int .i64 ((((i0 + 1) : Nat) : Int))) (y_assign rfl) rfl ?_
  refine wpL_nil ?_
  refine thenS_n ?_
  refine wpS_block ?_
  refine wpS_loop (fun mez ds σ L => ∃ j : Nat, ∃ i : Nat, ∃ xs : List Let, mez = n - j ∧ (j ≤ n) ∧ (KpI t l xs i j) ∧ ds = [] ∧ σ 0 = .slice a n c ∧ σ 1 = .func (.func 199) #[] #[.pointer (some ⟨cb, 0, none⟩)] ∧ σ 5 = .int .i64 (((i : Nat) : Int)) ∧ σ 6 = .int .i64 (((j : Nat) : Int)) ∧ Ent L [cel cb 3 [.int .i64 t], osl a c n 2 218 (xs.flatMap letV)]) (m0 := n - (i0 + 1)) ⟨(i0 + 1), i0, l, rfl, by omega, (kpI_0 (by rw [← hi0]; exact (fd_yes (by omega)).1) hil (by rw [← hi0]; exact (fd_yes (by omega)).2)), rfl, rfl, rfl, rfl, rfl, .p .h (.p .h .nil)⟩ ?_
  rintro mez ds σ L ⟨j, i, xs, hm_1, hf0_1, hf1_1, rfl, h0_1, h1_1, h5_1, h6_1, hE_1⟩
  refine wpS_ent hE_1 ?_; clear hE_1
  have hKP := (by assumption : KpI t l xs i j)
  have hi := hKP.hi
  have hj := hKP.hj
  have hxl0 := hKP.hl
  have hxl : xs.length = n := by omega
  refine wpS_seq ?_
  refine wpS_seq ?_
  refine wpS_region ?_
  refine s_y (v := .int .i64 (((j : Nat) : Int))) (y_move h6_1) rfl ?_
  refine s_y (v := .slice a n c) (y_move h0_1) rfl ?_
  refine s_y (v := .int .i64 (((n : Nat) : Int))) (y_len (ty' := 0) (at_ := #[]) rfl Try.underlying213) rfl ?_
  refine s_y (v := .bool (decide (j < n))) (y_lss (a := ((j : Nat) : Int)) (b := ((n : Nat) : Int)) (c := decide (j < n)) rfl rfl (decide_eq_decide.2 (by omega))) rfl ?_
  refine wpL_nil ?_
  refine thenS_n ?_
  refine wpS_cond (t := decide (j < n)) rfl (fun b2 => ?_) (fun b2 => ?_)
  · -- decide (j < n) true
    have p2 := of_decide_eq_true b2
    refine wpS_skip ?_
    refine thenS_n ?_
    refine wpS_seq ?_
    refine wpS_block ?_
    refine wpS_seq ?_
    refine wpS_region ?_
    refine s_y (v := .slice a n c) (y_move h0_1) rfl ?_
    refine s_y (v := .int .i64 (((j : Nat) : Int))) (y_move h6_1) rfl ?_
    refine s_y (v := .pointer (some ⟨aB a, aO a + j * 2, none⟩)) (y_idx (o := j * 2) rfl rfl Try.underlying213 Try.sizeOf218 (oslR (.t .h)) ((fl_len letV_len _).trans (by first | omega | (simp only [List.length_set, List.length_take, List.length_drop]; done) | (simp only [List.length_set, List.length_take, List.length_drop]; omega))) (by decide) (by omega) (by omega) (by omega)) rfl ?_
    refine s_y (v := .agg #[.int .i64 ((xs.getD j default).to), .slice ((xs.getD j default).a) ((xs.getD j default).n) ((xs.getD j default).c)]) (y_loadN (vs := letV (xs.getD j default)) rfl Try.isAgg218 Try.sizeOf218 (rdN (oslR (.t .h)) (fl_getN letV_len xs j (by first | omega | (simp only [List.length_set, List.length_take, List.length_drop]; done) | (simp only [List.length_set, List.length_take, List.length_drop]; omega))))) rfl ?_
    refine s_e rfl ?_
    refine e_alloc (l := [.int .i64 0, .slice none 0 0]) Try.zeroValue218 rfl ?_
    intro b_3
    refine s_e0 ?_
    refine e_store (vs := [.int .i64 ((xs.getD j default).to), .slice ((xs.getD j default).a) ((xs.getD j default).n) ((xs.getD j default).c)]) (l' := [.int .i64 ((xs.getD j default).to), .slice ((xs.getD j default).a) ((xs.getD j default).n) ((xs.getD j default).c)]) rfl rfl rfl rfl Try.sizeOf218 .h (Nat.le_of_ble_eq_true rfl) rfl ?_
    refine wpL_nil ?_
    refine thenS_n ?_
    refine wpS_seq ?_
    refine wpS_region ?_
    refine s_y (v := .func (.func 199) #[] #[.pointer (some ⟨cb, 0, none⟩)]) (y_move h1_1) rfl ?_
    refine s_y (v := .agg #[.int .i64 ((xs.getD j default).to), .slice ((xs.getD j default).a) ((xs.getD j default).n) ((xs.getD j default).c)]) (y_loadN (vs := [.int .i64 ((xs.getD j default).to), .slice ((xs.getD j default).a) ((xs.getD j default).n) ((xs.getD j default).c)]) rfl Try.isAgg218 Try.sizeOf218 (ownN .h rfl)) rfl ?_
    refine s_y (v := .bool (decide ((xs.getD j default).to = t))) (y_callV (cap := #[.pointer (some ⟨cb, 0, none⟩)]) (args := #[.agg #[.int .i64 ((xs.getD j default).to), .slice ((xs.getD j default).a) ((xs.getD j default).n) ((xs.getD j default).c)]]) (args' := #[.agg #[.int .i64 ((xs.getD j default).to), .slice ((xs.getD j default).a) ((xs.getD j default).n) ((xs.getD j default).c)], .pointer (some ⟨cb, 0, none⟩)]) (v := .bool (decide ((xs.getD j default).to = t))) rfl Try.call199 (ev1 rfl) rfl (fun w hs => is_c (xs.getD j default) cb t w ((own1 (.t .h) rfl) w hs))) rfl ?_
    refine s_y (v := .bool (!(decide ((xs.getD j default).to = t)))) (y_not (b := decide ((xs.getD j default).to = t)) rfl) rfl ?_
    refine wpL_nil ?_
    refine thenS_n ?_
    refine wpS_cond (t := !(decide ((xs.getD j default).to = t))) rfl (fun b4 => ?_) (fun b4 => ?_)
    · -- !(decide ((xs.getD j default).to = t)) true
      have b5 : (decide ((xs.getD j default).to = t)) = false := by simpa using b4
      have p5 := of_decide_eq_false b5
      refine wpS_seq ?_
      refine wpS_region ?_
      refine s_y (v := .slice a n c) (y_move h0_1) rfl ?_
      refine s_y (v := .int .i64 (((i : Nat) : Int))) (y_move h5_1) rfl ?_
      refine s_y (v := .agg #[.int .i64 ((xs.getD j default).to), .slice ((xs.getD j default).a) ((xs.getD j default).n) ((xs.getD j default).c)]) (y_loadN (vs := [.int .i64 ((xs.getD j default).to), .slice ((xs.getD j default).a) ((xs.getD j default).n) ((xs.getD j default).c)]) rfl Try.isAgg218 Try.sizeOf218 (ownN .h rfl)) rfl ?_
      refine s_y (v := .pointer (some ⟨aB a, aO a + i * 2, none⟩)) (y_idx (o := i * 2) rfl rfl Try.underlying213 Try.sizeOf218 (oslR (.t (.t .h))) ((fl_len letV_len _).trans (by first | omega | (simp only [List.length_set, List.length_take, List.length_drop]; done) | (simp only [List.length_set, List.length_take, List.length_drop]; omega))) (by decide) (by omega) (by omega) (by omega)) rfl ?_
      refine s_e0 ?_
      refine e_storeL (enc := letV) (xs := xs) (y := (xs.getD j default)) letV_len letV_one (by decide) rfl rfl rfl Try.sizeOf218 (.t (.t .h)) (by (try simp only [List.length_set]); omega) ?_
      refine wpL_nil ?_
      refine thenS_n ?_
      refine wpS_region ?_
      refine s_y (v := .int .i64 (((i : Nat) : Int))) (y_move h5_1) rfl ?_
      refine s_y (v := .int .i64 ((((i + 1) : Nat) : Int))) (y_add (a := ((i : Nat) : Int)) (b := 1) (c := (((i + 1) : Nat) : Int)) rfl rfl (wI (by omega) (by omega) (by omega))) rfl ?_
      refine s_y (v := .int .i64 ((((i + 1) : Nat) : Int))) (y_assign rfl) rfl ?_
      refine wpL_nil ?_
      refine blockS_n ?_
      refine thenS_n ?_
      refine wpS_region ?_
      refine s_y (v := .int .i64 (((j : Nat) : Int))) (y_move h6_1) rfl ?_
      refine s_y (v := .int .i64 ((((j + 1) : Nat) : Int))) (y_add (a := ((j : Nat) : Int)) (b := 1) (c := (((j + 1) : Nat) : Int)) rfl rfl (wI (by omega) (by omega) (by omega))) rfl ?_
      refine s_y (v := .int .i64 ((((j + 1) : Nat) : Int))) (y_assign rfl) rfl ?_
      refine wpL_nil ?_
      refine thenS_n ?_
      exact ⟨_, by omega, ⟨(j + 1), (i + 1), (xs.set i (xs.getD j default)), rfl, by omega, (by first | exact kpI_yes hKP (by omega) (by assumption) | exact kpI_no hKP (by omega) (by assumption)), rfl, h0_1, h1_1, rfl, rfl, .p (.t (.t .h)) (.p .h .nil)⟩⟩
    · -- !(decide ((xs.getD j default).to = t)) false
      have b6 : (decide ((xs.getD j default).to = t)) = true := by simpa using b4
      have p6 := of_decide_eq_true b6
      refine wpS_skip ?_
      refine blockS_n ?_
      refine thenS_n ?_
      refine wpS_region ?_
      refine s_y (v := .int .i64 (((j : Nat) : Int))) (y_move h6_1) rfl ?_
      refine s_y (v := .int .i64 ((((j + 1) : Nat) : Int))) (y_add (a := ((j : Nat) : Int)) (b := 1) (c := (((j + 1) : Nat) : Int)) rfl rfl (wI (by omega) (by omega) (by omega))) rfl ?_
      refine s_y (v := .int .i64 ((((j + 1) : Nat) : Int))) (y_assign rfl) rfl ?_
      refine wpL_nil ?_
      refine thenS_n ?_
      exact ⟨_, by omega, ⟨(j + 1), i, xs, rfl, by omega, (by first | exact kpI_yes hKP (by omega) (by assumption) | exact kpI_no hKP (by omega) (by assumption)), rfl, h0_1, h1_1, h5_1, rfl, .p (.t .h) (.p (.t .h) .nil)⟩⟩
  · -- decide (j < n) false
    have p2 := of_decide_eq_false b2
    refine wpS_exit ?_
    refine thenS_x ?_
    refine thenS_x ?_
    refine blockS_h ?_
    refine thenS_n ?_
    refine wpS_seq ?_
    refine wpS_region ?_
    refine s_y (v := .slice a n c) (y_move h0_1) rfl ?_
    refine s_y (v := .int .i64 (((i : Nat) : Int))) (y_move h5_1) rfl ?_
    refine s_y (v := .slice (subA a c i 2) (n - i) (c - i)) (y_sliceL (l' := i) rfl rfl Try.underlying213 Try.sizeOf218 (by omega) (by omega) (by omega)) rfl ?_
    refine s_e0 ?_
    refine e_clearN (enc := letV) (y0 := zLet) (xs := xs) (j := i) (k := (n - i)) (zs := (xs.take i ++ List.replicate (n - i) zLet)) letV_len letV_one (by decide) Try.underlying213 Try.zeroValue218 rfl rfl (.t .h) hxl (by omega) rfl ?_
    refine wpL_nil ?_
    refine thenS_n ?_
    refine wpS_seq ?_
    refine wpS_region ?_
    refine s_y (v := .slice a n c) (y_move h0_1) rfl ?_
    refine s_y (v := .int .i64 (((i : Nat) : Int))) (y_move h5_1) rfl ?_
    refine s_y (v := .slice a i c) (y_sliceH (h' := i) rfl rfl Try.underlying213 Try.sizeOf218 (by omega) (by omega) (by omega)) rfl ?_
    refine s_y (v := .slice a i c) (y_assign rfl) rfl ?_
    refine wpL_nil ?_
    refine thenS_n ?_
    refine wpS_ret ?_
    refine fin1 (M := [cel cb 3 [.int .i64 t], osl a c i 2 218 (((xs.take i ++ List.replicate (n - i) zLet).take i).flatMap letV)]) (v := .slice a i c) (.inr rfl) (.p (.t .h) (.w .h (osl_cut letV_len (by rw [List.length_append, List.length_take, List.length_replicate]; omega) (by omega)) .nil)) Try.results198 rfl ?_
    have hke := kpI_end hKP (by omega)
    have hkl : (kpT t l).length = i := by rw [hke, List.length_take]; omega
    have hkt : (xs.take i ++ List.replicate (n - i) zLet).take i = (kpT t l) := by rw [hke, List.take_append_of_le_length (by rw [List.length_take]; omega), List.take_take, Nat.min_self]
    exact fun w' hs => ⟨by rw [hkl], by rw [hkl]; rw [hkt] at hs; exact hs⟩

theorem delF_c (a : Option Addr) (n c : Nat) (l : List Let) (cb : Nat) (t : Int) (w : World) (hn : l.length = n) (hb : n ≤ 1000000) (hA : SH w (([cel cb 3 [.int .i64 t], osl a c n 2 218 (l.flatMap letV)] : List Res).flatMap Res.fp) [cel cb 3 [.int .i64 t], osl a c n 2 218 (l.flatMap letV)] w) : Calls Try.prog 198 #[.slice a n c, .func (.func 199) #[] #[.pointer (some ⟨cb, 0, none⟩)]] w (fun e w' => e = .returned (.slice a (kpT t l).length c) ∧ SH w (([cel cb 3 [.int .i64 t], osl a c n 2 218 (l.flatMap letV)] : List Res).flatMap Res.fp) [cel cb 3 [.int .i64 t], osl a c (kpT t l).length 2 218 ((kpT t l).flatMap letV)] w') := by
  by_cases h : fdT t l < l.length
  · exact del1_c a n c l cb t w hn hb hA rfl h
  · exact del0_c a n c l cb t w hn hb hA h

theorem clear_c (wb : Nat) (ua : Option Addr) (uc : Nat) (ba : Option Addr) (bc : Nat) (us bs : List Let) (t : Int) (w : World) (hul : us.length ≤ 100000) (hbl : bs.length ≤ 100000) (hA : SH w (([cel wb 215 [.slice ua us.length uc, .slice ba bs.length bc], osl ua uc us.length 2 218 (us.flatMap letV), osl ba bc bs.length 2 218 (bs.flatMap letV), famb (us ++ bs)] : List Res).flatMap Res.fp) [cel wb 215 [.slice ua us.length uc, .slice ba bs.length bc], osl ua uc us.length 2 218 (us.flatMap letV), osl ba bc bs.length 2 218 (bs.flatMap letV), famb (us ++ bs)] w) : Calls Try.prog 117 #[.pointer (some ⟨wb, 0, none⟩), .int .i64 t] w (fun e w' => ∃ x : (Option Addr × Nat) × (Option Addr × Nat), e = .returned (.tuple #[]) ∧ SH w (([cel wb 215 [.slice ua us.length uc, .slice ba bs.length bc], osl ua uc us.length 2 218 (us.flatMap letV), osl ba bc bs.length 2 218 (bs.flatMap letV), famb (us ++ bs)] : List Res).flatMap Res.fp) [cel wb 215 [.slice x.1.1 us.length x.1.2, .slice x.2.1 ((kpT t bs).length) x.2.2], osl x.1.1 x.1.2 us.length 2 218 (us.flatMap letV), osl x.2.1 x.2.2 ((kpT t bs).length) 2 218 ((kpT t bs).flatMap letV), famb (us ++ (kpT t bs))] w') := by
  refine calls_S (n := 16) (σ0 := (upd (upd fr0 0 (.pointer (some ⟨wb, 0, none⟩))) 1 (.int .i64 t))) (D := (([cel wb 215 [.slice ua us.length uc, .slice ba bs.length bc], osl ua uc us.length 2 218 (us.flatMap letV), osl ba bc bs.length 2 218 (bs.flatMap letV), famb (us ++ bs)] : List Res).flatMap Res.fp)) (A := [cel wb 215 [.slice ua us.length uc, .slice ba bs.length bc], osl ua uc us.length 2 218 (us.flatMap letV), osl ba bc bs.length 2 218 (bs.flatMap letV), famb (us ++ bs)]) Try.func117 rfl Try.ntmps117 rfl (a2_fr _ _) hA ?_
  refine wpS_seq ?_
  refine wpS_region ?_
  refine s_e rfl ?_
  refine e_box (v := .int .i64 t) (l := [.int .i64 t]) rfl rfl ?_
  intro b_1
  refine wpL_nil ?_
  refine thenS_n ?_
  refine wpS_seq ?_
  refine wpS_region ?_
  refine s_y (v := .pointer (some ⟨wb, 0, none⟩)) (y_move rfl) rfl ?_
  refine s_y (v := .bool true) (y_ptrNe rfl rfl Try.underlying125 (by kernel_rfl) rfl) rfl ?_
  refine wpL_nil ?_
  refine thenS_n ?_
  refine wpS_cond_t rfl ?_
  refine wpS_region ?_
  refine s_y (v := .pointer (some ⟨wb, 0, none⟩)) (y_move rfl) rfl ?_
  refine s_y (v := .pointer (some ⟨wb, 0, none⟩)) (y_move rfl) rfl ?_
  refine s_y (v := .pointer (some ⟨wb, 0, none⟩)) (y_nilP rfl) rfl ?_
  refine s_y (v := .pointer (some ⟨wb, 1, none⟩)) (y_fieldAddr (o' := 1) rfl Try.underlying215 rfl Try.sizeOf213 (by decide) rfl) rfl ?_
  refine s_y (v := .slice ba bs.length bc) (y_load1 rfl Try.isAgg213 (own1 (.t .h) rfl)) rfl ?_
  refine s_e rfl ?_
  refine e_call (f := 192) (args := #[.slice ba bs.length bc]) (X := Option Addr × Nat) (A := []) (M := [cel b_1 3 [.int .i64 t], cel wb 215 [.slice ua us.length uc, .slice ba bs.length bc], osl ua uc us.length 2 218 (us.flatMap letV), osl ba bc bs.length 2 218 (bs.flatMap letV), famb (us ++ bs)]) (V := slV bs) (A' := fun x => [slR letV 2 218 bs x]) (C := fun x => bs.length ≤ x.2) Try.call192 (ev1 rfl) (.p .h (.p .h (.p .h (.p .h (.p .h .nil))))) (fun w hs => (cloneL_c ba bs.length bc bs w rfl (oslR (.t (.t (.t .h))) w hs) (by omega)).cap) ?_
  rintro ⟨a_2, c_3⟩ hc4; replace hc4 : bs.length ≤ c_3 := hc4
  refine s_y (v := .func (.func 199) #[] #[.pointer (some ⟨b_1, 0, none⟩)]) (y_makeFunc (a := #[]) (b := #[.pointer (some ⟨b_1, 0, none⟩)]) ev0 (ev1 rfl)) rfl ?_
  refine s_e rfl ?_
  refine e_call (f := 198) (args := #[.slice a_2 bs.length c_3, .func (.func 199) #[] #[.pointer (some ⟨b_1, 0, none⟩)]]) (X := Unit) (A := [cel b_1 3 [.int .i64 t], osl a_2 c_3 bs.length 2 218 (bs.flatMap letV)]) (M := [cel wb 215 [.slice ua us.length uc, .slice ba bs.length bc], osl ua uc us.length 2 218 (us.flatMap letV), osl ba bc bs.length 2 218 (bs.flatMap letV), famb (us ++ bs)]) (V := fun _ => .slice a_2 (kpT t bs).length c_3) (A' := fun _ => [cel b_1 3 [.int .i64 t], osl a_2 c_3 ((kpT t bs).length) 2 218 ((kpT t bs).flatMap letV)]) (C := fun _ => True) Try.call198 (ev2 rfl rfl) (.p (.t .h) (.p .h (.p .h (.p .h (.p .h (.p .h .nil)))))) (fun w hs => (delF_c a_2 bs.length c_3 bs b_1 t w (by first | rfl | omega) (by omega) (SH.lendW hs)).mono (fun e w2 hx => ⟨(), hx.1, hx.2, trivial⟩)) ?_
  rintro ⟨⟩ -
  refine s_y (v := .pointer (some ⟨wb, 0, none⟩)) (y_nilP rfl) rfl ?_
  refine s_y (v := .pointer (some ⟨wb, 1, none⟩)) (y_fieldAddr (o' := 1) rfl Try.underlying215 rfl Try.sizeOf213 (by decide) rfl) rfl ?_
  refine s_e0 ?_
  refine e_store (vs := [.slice a_2 ((kpT t bs).length) c_3]) (l' := [.slice ua us.length uc, .slice a_2 ((kpT t bs).length) c_3]) rfl rfl rfl rfl Try.sizeOf213 (.t (.t .h)) (Nat.le_of_ble_eq_true rfl) rfl ?_
  refine wpL_nil ?_
  refine fin0 (M := [cel wb 215 [.slice ua us.length uc, .slice a_2 ((kpT t bs).length) c_3], osl ua uc us.length 2 218 (us.flatMap letV), osl a_2 c_3 ((kpT t bs).length) 2 218 ((kpT t bs).flatMap letV), famb (us ++ (kpT t bs))]) (.inl rfl) (.p .h (.p (.t (.t .h)) (.p (.t .h) (.w (.t (.t .h)) (famb_sub kp_sub) .nil)))) Try.results117 ?_
  exact fun w' hs => ⟨((ua, uc), (a_2, c_3)), rfl, by exact hs⟩

theorem fork_c (wb : Nat) (ua : Option Addr) (uc : Nat) (ba : Option Addr) (bc : Nat) (us bs : List Let) (w : World) (hul : us.length ≤ 100000) (hbl : bs.length ≤ 100000) (hu0 : w.cell? ⟨wb, 0, none⟩ = some (.slice ua us.length uc)) (hu1 : w.cell? ⟨wb, 1, none⟩ = some (.slice ba bs.length bc)) (hru : Rds w ua (us.flatMap letV)) (hrb : Rds w ba (bs.flatMap letV)) : Makes Try.prog 119 #[.pointer (some ⟨wb, 0, none⟩)] w [] (X := Nat × ((Option Addr × Nat) × (Option Addr × Nat))) (fun x => .pointer (some ⟨x.1, 0, none⟩)) (fun x => [cel x.1 215 [.slice x.2.1.1 us.length x.2.1.2, .slice x.2.2.1 bs.length x.2.2.2], osl x.2.1.1 x.2.1.2 us.length 2 218 (us.flatMap letV), osl x.2.2.1 x.2.2.2 bs.length 2 218 (bs.flatMap letV)]) (fun _ => True) := by
  refine calls_S (n := 17) (σ0 := (upd fr0 0 (.pointer (some ⟨wb, 0, none⟩)))) (D := []) (A := []) Try.func119 rfl Try.ntmps119 rfl (a1_fr _) (SH.start w) ?_
  refine wpS_seq ?_
  refine wpS_region ?_
  refine s_y (v := .pointer none) (y_assign rfl) rfl ?_
  refine wpL_nil ?_
  refine thenS_n ?_
  refine wpS_seq ?_
  refine wpS_seq ?_
  refine wpS_region ?_
  refine s_y (v := .pointer (some ⟨wb, 0, none⟩)) (y_move rfl) rfl ?_
  refine s_y (v := .bool false) (y_ptrEq rfl rfl Try.underlying125 (by kernel_rfl) rfl) rfl ?_
  refine wpL_nil ?_
  refine thenS_n ?_
  refine wpS_cond_f rfl ?_
  refine wpS_skip ?_
  refine thenS_n ?_
  refine wpS_seq ?_
  refine wpS_anyL [] [] (by kernel_rfl) ?_
  refine anyS_take (i := 0) rfl (by kernel_rfl) (by kernel_rfl) (by kernel_rfl) (by kernel_rfl) (Yq.of (v := .pointer (some ⟨wb, 0, none⟩)) (y_move rfl) rfl) (.nil) ?_
  refine anyS_take (i := 1) rfl (by kernel_rfl) (by kernel_rfl) (by kernel_rfl) (by kernel_rfl) (Yq.of (v := .pointer (some ⟨wb, 0, none⟩)) (y_nilP rfl) rfl) (.nil) ?_
  refine anyS_take (i := 2) rfl (by kernel_rfl) (by kernel_rfl) (by kernel_rfl) (by kernel_rfl) (Yq.of (v := .pointer (some ⟨wb, 0, none⟩)) (y_fieldAddr (o' := 0) rfl Try.underlying215 rfl Try.sizeOf213 (by decide) rfl) rfl) (.nil) ?_
  refine anyS_take (i := 3) rfl (by kernel_rfl) (by kernel_rfl) (by kernel_rfl) (by kernel_rfl) (Yq.of (v := .slice ua us.length uc) (y_load1 (v := .slice ua us.length uc) rfl Try.isAgg213 (old1 hu0 (by simp))) rfl) (.nil) ?_
  refine anyS_take (i := 5) rfl (by kernel_rfl) (by kernel_rfl) (by kernel_rfl) (by kernel_rfl) (Yq.of (v := .pointer (some ⟨wb, 0, none⟩)) (y_move rfl) rfl) (.nil) ?_
  refine anyS_take (i := 6) rfl (by kernel_rfl) (by kernel_rfl) (by kernel_rfl) (by kernel_rfl) (Yq.of (v := .pointer (some ⟨wb, 0, none⟩)) (y_nilP rfl) rfl) (.nil) ?_
  refine anyS_take (i := 7) rfl (by kernel_rfl) (by kernel_rfl) (by kernel_rfl) (by kernel_rfl) (Yq.of (v := .pointer (some ⟨wb, 1, none⟩)) (y_fieldAddr (o' := 1) rfl Try.underlying215 rfl Try.sizeOf213 (by decide) rfl) rfl) (.nil) ?_
  refine anyS_take (i := 8) rfl (by kernel_rfl) (by kernel_rfl) (by kernel_rfl) (by kernel_rfl) (Yq.of (v := .slice ba bs.length bc) (y_load1 (v := .slice ba bs.length bc) rfl Try.isAgg213 (old1 hu1 (by simp))) rfl) (.nil) ?_
  refine anyS_all (rs := [4]) (by kernel_rfl) (by simp) ?_
  intro i hi; obtain rfl := List.mem_singleton.1 hi; clear hi
  refine opS_0 rfl rfl ?_
  refine e_call (f := 192) (args := #[.slice ua us.length uc]) (X := Option Addr × Nat) (A := []) (M := []) (V := slV us) (A' := fun x => [slR letV 2 218 us x]) (C := fun x => us.length ≤ x.2) Try.call192 (ev1 rfl) (.nil) (fun w hs => (cloneL_c ua us.length uc us w rfl ((oldR hru) w hs) (by omega)).cap) ?_
  rintro ⟨a_1, c_2⟩ hc3; replace hc3 : us.length ≤ c_2 := hc3
  refine ⟨.inr (.nil), ?_⟩
  refine anyS_all (rs := [9]) (by kernel_rfl) (by simp) ?_
  intro i hi; obtain rfl := List.mem_singleton.1 hi; clear hi
  refine opS_0 rfl rfl ?_
  refine e_call (f := 192) (args := #[.slice ba bs.length bc]) (X := Option Addr × Nat) (A := []) (M := [osl a_1 c_2 us.length 2 218 (us.flatMap letV)]) (V := slV bs) (A' := fun x => [slR letV 2 218 bs x]) (C := fun x => bs.length ≤ x.2) Try.call192 (ev1 rfl) (.p .h .nil) (fun w hs => (cloneL_c ba bs.length bc bs w rfl ((oldR hrb) w hs) (by omega)).cap) ?_
  rintro ⟨a_5, c_6⟩ hc7; replace hc7 : bs.length ≤ c_6 := hc7
  refine ⟨.inr (.nil), ?_⟩
  refine anyS_take (i := 10) rfl (by kernel_rfl) (by kernel_rfl) (by kernel_rfl) (by kernel_rfl) (Yq.of (v := .agg #[.slice a_1 us.length c_2, .slice a_5 bs.length c_6]) (y_buildL (m := [(0, .slice a_1 us.length c_2), (1, .slice a_5 bs.length c_6)]) (vs := #[.slice a_1 us.length c_2, .slice a_5 bs.length c_6]) (evc rfl (evc rfl evn)) (fun w => by kernel_rfl)) rfl) (.nil) ?_
  refine anyS_all (rs := [11]) (by kernel_rfl) (by simp) ?_
  intro i hi; obtain rfl := List.mem_singleton.1 hi; clear hi
  refine opS_0 rfl rfl ?_
  refine e_box (v := .agg #[.slice a_1 us.length c_2, .slice a_5 bs.length c_6]) (l := [.slice a_1 us.length c_2, .slice a_5 bs.length c_6]) rfl rfl ?_
  intro b_9
  refine ⟨.inr (.nil), ?_⟩
  refine anyS_take (i := 12) rfl (by kernel_rfl) (by kernel_rfl) (by kernel_rfl) (by kernel_rfl) (Yq.of (v := .pointer (some ⟨b_9, 0, none⟩)) (y_assign rfl) rfl) (.nil) ?_
  refine anyS_done (by kernel_rfl) ?_
  refine thenS_n ?_
  refine wpS_ret ?_
  refine fin1 (M := [cel b_9 215 [.slice a_1 us.length c_2, .slice a_5 bs.length c_6], osl a_1 c_2 us.length 2 218 (us.flatMap letV), osl a_5 c_6 bs.length 2 218 (bs.flatMap letV)]) (v := .pointer (some ⟨b_9, 0, none⟩)) (.inr rfl) (.p .h (.p (.t .h) (.p .h .nil))) Try.results119 rfl ?_
  exact fun w' hs => ⟨(b_9, ((a_1, c_2), (a_5, c_6))), rfl, hs, trivial⟩

theorem drop2_c (wb : Nat) (ua : Option Addr) (uc : Nat) (ba : Option Addr) (bc : Nat) (us bs : List Let) (i : Int) (w : World) (hul : us.length ≤ 100000) (hbl : bs.length ≤ 100000) (hA : SH w (([cel wb 215 [.slice ua us.length uc, .slice ba bs.length bc], osl ua uc us.length 2 218 (us.flatMap letV), osl ba bc bs.length 2 218 (bs.flatMap letV)] : List Res).flatMap Res.fp) [cel wb 215 [.slice ua us.length uc, .slice ba bs.length bc], osl ua uc us.length 2 218 (us.flatMap letV), osl ba bc bs.length 2 218 (bs.flatMap letV)] w) : Calls Try.prog 107 #[.pointer (some ⟨wb, 0, none⟩), .int .i64 i] w (fun e w' => ∃ x : (Option Addr × Nat) × (Option Addr × Nat), e = .returned (.bool (decide (0 < us.length))) ∧ SH w (([cel wb 215 [.slice ua us.length uc, .slice ba bs.length bc], osl ua uc us.length 2 218 (us.flatMap letV), osl ba bc bs.length 2 218 (bs.flatMap letV)] : List Res).flatMap Res.fp) [cel wb 215 [.slice x.1.1 ((dlU us i).length) x.1.2, .slice x.2.1 bs.length x.2.2], osl x.1.1 x.1.2 ((dlU us i).length) 2 218 ((dlU us i).flatMap letV), osl x.2.1 x.2.2 bs.length 2 218 (bs.flatMap letV)] w') := by
  refine calls_S (n := 18) (σ0 := (upd (upd fr0 0 (.pointer (some ⟨wb, 0, none⟩))) 1 (.int .i64 i))) (D := (([cel wb 215 [.slice ua us.length uc, .slice ba bs.length bc], osl ua uc us.length 2 218 (us.flatMap letV), osl ba bc bs.length 2 218 (bs.flatMap letV)] : List Res).flatMap Res.fp)) (A := [cel wb 215 [.slice ua us.length uc, .slice ba bs.length bc], osl ua uc us.length 2 218 (us.flatMap letV), osl ba bc bs.length 2 218 (bs.flatMap letV)]) Try.func107 rfl Try.ntmps107 rfl (a2_fr _ _) hA ?_
  have hlt : 0 < us.length → atI us.length i < us.length := fun h => atI_lt i h
  refine wpS_seq ?_
  refine wpS_region ?_
  refine s_y (v := .bool false) (y_assign rfl) rfl ?_
  refine wpL_nil ?_
  refine thenS_n ?_
  refine wpS_seq ?_
  refine wpS_region ?_
  refine s_y (v := .pointer (some ⟨wb, 0, none⟩)) (y_move rfl) rfl ?_
  refine s_y (v := .int .i64 i) (y_move rfl) rfl ?_
  refine s_y (v := .tuple #[.int .i64 ((((atI us.length i) : Nat) : Int)), .bool (decide (0 < us.length))]) (y_call (args := #[.pointer (some ⟨wb, 0, none⟩), .int .i64 i]) (v := .tuple #[.int .i64 ((((atI us.length i) : Nat) : Int)), .bool (decide (0 < us.length))]) Try.call188 (ev2 rfl rfl) (fun w hs => atW_c wb ua us.length uc i w (by omega) (own1 .h rfl w hs))) rfl ?_
  refine s_y (v := .tuple #[.int .i64 ((((atI us.length i) : Nat) : Int)), .bool (decide (0 < us.length))]) (y_move rfl) rfl ?_
  refine s_y (v := .int .i64 ((((atI us.length i) : Nat) : Int))) (y_extract (v := .int .i64 ((((atI us.length i) : Nat) : Int))) rfl rfl) rfl ?_
  refine s_y (v := .bool (decide (0 < us.length))) (y_extract (v := .bool (decide (0 < us.length))) rfl rfl) rfl ?_
  refine s_y (v := .int .i64 ((((atI us.length i) : Nat) : Int))) (y_assign rfl) rfl ?_
  refine s_y (v := .bool (decide (0 < us.length))) (y_assign rfl) rfl ?_
  refine wpL_nil ?_
  refine thenS_n ?_
  refine wpS_seq ?_
  refine wpS_seq ?_
  refine wpS_region ?_
  refine s_y (v := .bool (decide (0 < us.length))) (y_move rfl) rfl ?_
  refine wpL_nil ?_
  refine thenS_n ?_
  refine wpS_cond (t := decide (0 < us.length)) rfl (fun b1 => ?_) (fun b1 => ?_)
  · -- decide (0 < us.length) true
    have p1 := of_decide_eq_true b1
    refine wpS_region ?_
    refine s_y (v := .pointer (some ⟨wb, 0, none⟩)) (y_move rfl) rfl ?_
    refine s_y (v := .int .i64 ((((atI us.length i) : Nat) : Int))) (y_move rfl) rfl ?_
    refine s_e rfl ?_
    refine e_call (f := 189) (args := #[.pointer (some ⟨wb, 0, none⟩), .int .i64 ((((atI us.length i) : Nat) : Int))]) (X := Option Addr × Nat) (A := [cel wb 215 [.slice ua us.length uc, .slice ba bs.length bc], osl ua uc us.length 2 218 (us.flatMap letV)]) (M := [osl ba bc bs.length 2 218 (bs.flatMap letV)]) (V := fun _ => .tuple #[]) (A' := fun x => [cel wb 215 [.slice x.1 ((cutL us (atI us.length i)).length) x.2, .slice ba bs.length bc], osl x.1 x.2 ((cutL us (atI us.length i)).length) 2 218 ((cutL us (atI us.length i)).flatMap letV)]) (C := fun _ => True) Try.call189 (ev2 rfl rfl) (.p .h (.p .h (.p .h .nil))) (fun w hs => (dropI_c wb ua uc ba bs.length bc us (atI us.length i) w (by omega) (by omega) (SH.lendW hs)).mono (fun e w2 hx => hx.elim (fun x hx => ⟨x, hx.1, hx.2, trivial⟩))) ?_
    rintro ⟨ua_2, uc_3⟩ -
    refine wpL_nil ?_
    refine thenS_n ?_
    refine wpS_seq ?_
    refine wpS_region ?_
    refine s_y (v := .bool (decide (0 < us.length))) (y_move rfl) rfl ?_
    refine s_y (v := .bool (decide (0 < us.length))) (y_assign rfl) rfl ?_
    refine wpL_nil ?_
    refine thenS_n ?_
    refine wpS_ret ?_
    refine fin1 (M := [cel wb 215 [.slice ua_2 ((cutL us (atI us.length i)).length) uc_3, .slice ba bs.length bc], osl ua_2 uc_3 ((cutL us (atI us.length i)).length) 2 218 ((cutL us (atI us.length i)).flatMap letV), osl ba bc bs.length 2 218 (bs.flatMap letV)]) (v := .bool (decide (0 < us.length))) (.inr rfl) (.p .h (.p .h (.p .h .nil))) Try.results107 rfl ?_
    exact fun w' hs => ⟨((ua_2, uc_3), (ba, bc)), (congrArg (fun b : Bool => Ending.returned (.bool b)) (show _ = decide (0 < us.length) from (by first | exact (decide_eq_true (by omega)).symm | rfl))), by rw [show (dlU us i) = (cutL us (atI us.length i)) from (by unfold dlU; rw [if_neg (by omega)])]; exact hs⟩
  · -- decide (0 < us.length) false
    have p1 := of_decide_eq_false b1
    refine wpS_skip ?_
    refine thenS_n ?_
    refine wpS_seq ?_
    refine wpS_region ?_
    refine s_y (v := .bool (decide (0 < us.length))) (y_move rfl) rfl ?_
    refine s_y (v := .bool (decide (0 < us.length))) (y_assign rfl) rfl ?_
    refine wpL_nil ?_
    refine thenS_n ?_
    refine wpS_ret ?_
    refine fin1 (M := [cel wb 215 [.slice ua us.length uc, .slice ba bs.length bc], osl ua uc us.length 2 218 (us.flatMap letV), osl ba bc bs.length 2 218 (bs.flatMap letV)]) (v := .bool (decide (0 < us.length))) (.inr rfl) (.p .h (.p .h (.p .h .nil))) Try.results107 rfl ?_
    exact fun w' hs => ⟨((ua, uc), (ba, bc)), (congrArg (fun b : Bool => Ending.returned (.bool b)) (show _ = decide (0 < us.length) from (by first | exact (decide_eq_false (by omega)).symm | rfl))), by rw [show (dlU us i) = us from (by unfold dlU; rw [if_pos (by omega)])]; exact hs⟩

end Go.Proofs.Ytldkjjnjdjfipaa
