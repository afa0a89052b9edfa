/- Copies of records with room behind them, walked. -/
import Derived.Test.YtldkjjnjdjfipaaWHlp
import Derived.Test.YtldkjjnjdjfipaaGen
namespace Go.Proofs.Ytldkjjnjdjfipaa
open Go Go.RowKit
set_option linter.unusedVariables false
set_option linter.unusedSimpArgs false
set_option maxRecDepth 10000

theorem ownR_c (a : Option Addr) (n c : Nat) (l : List Rec) (v : Rec) (w : World) (hn : l.length = n) (hr : Rds w a (l.flatMap recV)) (hb : n ≤ 1000000) : Makes Try.prog 75 #[.slice a n c, .agg #[.bool (v.dead), .int .i64 (v.key.toInt), .int .i64 (v.value.toInt), .int .i64 (v.seq.toInt)]] w [] (X := Nat) (fun b => .slice (some ⟨b, 0, none⟩) n (n + 3)) (fun b => [osl (some ⟨b, 0, none⟩) (n + 3) (n + 3) 4 23 ((ownL l v).flatMap recV)]) (fun _ => True) := by
  refine calls_S (n := 33) (σ0 := (upd (upd fr0 0 (.slice a n c)) 1 (.agg #[.bool (v.dead), .int .i64 (v.key.toInt), .int .i64 (v.value.toInt), .int .i64 (v.seq.toInt)]))) (D := []) (A := []) Try.func75 rfl Try.ntmps75 rfl (a2_fr _ _) (SH.start w) ?_
  refine wpS_seq ?_
  refine wpS_region ?_
  refine s_e rfl ?_
  refine e_box (v := .agg #[.bool (v.dead), .int .i64 (v.key.toInt), .int .i64 (v.value.toInt), .int .i64 (v.seq.toInt)]) (l := [.bool (v.dead), .int .i64 (v.key.toInt), .int .i64 (v.value.toInt), .int .i64 (v.seq.toInt)]) rfl rfl ?_
  intro b_1
  refine s_y (v := .slice none 0 0) (y_assign rfl) rfl ?_
  refine wpL_nil ?_
  refine thenS_n ?_
  refine wpS_seq ?_
  refine wpS_region ?_
  refine s_y (v := .slice a n c) (y_move rfl) rfl ?_
  refine s_y (v := .int .i64 (((n : Nat) : Int))) (y_len (ty' := 0) (at_ := #[]) rfl Try.underlying69) rfl ?_
  refine s_y (v := .int .i64 ((((n + 3) : Nat) : Int))) (y_add (a := ((n : Nat) : Int)) (b := 3) (c := (((n + 3) : Nat) : Int)) rfl rfl (wI (by omega) (by omega) (by omega))) rfl ?_
  refine s_e rfl ?_
  refine e_make (enc := recV) (y0 := (Rec.mk false 0 0 0)) (m := 0) (c := (n + 3)) (bytes := 32) recV_len (by decide) Try.underlying69 (i := Try.t23) rfl rfl rfl rfl rfl rfl rfl (by omega) (by omega) (by omega) ?_
  intro b_2
  refine s_y (v := .slice (some ⟨b_2, 0, none⟩) 0 (n + 3)) (y_assign rfl) rfl ?_
  refine wpL_nil ?_
  refine thenS_n ?_
  refine wpS_seq ?_
  refine wpS_region ?_
  refine s_y (v := .slice (some ⟨b_2, 0, none⟩) 0 (n + 3)) (y_move rfl) rfl ?_
  refine s_y (v := .slice a n c) (y_move rfl) rfl ?_
  refine s_e rfl ?_
  refine e_appendIn (enc := recV) (xs := ((List.replicate (n + 3) (Rec.mk false 0 0 0)) : List Rec)) (ns := (l : List Rec)) (zs := (ownTo l (Rec.mk false 0 0 0) v 0)) recV_len recV_one Try.underlying69 (i := Try.t23) rfl rfl (by decide) rfl rfl hn.symm .h (by rw [List.length_replicate]) (oldR hr) (by omega) (by subst hn; exact ownTo_0 l (Rec.mk false 0 0 0) v) ?_
  refine s_y (v := .slice (some ⟨b_2, 0, none⟩) (0 + n) (n + 3)) (y_assign rfl) rfl ?_
  refine wpL_nil ?_
  refine thenS_n ?_
  refine wpS_seq ?_
  refine wpS_region ?_
  refine s_y (v := .slice (some ⟨b_2, 0, none⟩) (0 + n) (n + 3)) (y_move rfl) rfl ?_
  refine s_y (v := .slice a n c) (y_move rfl) rfl ?_
  refine s_y (v := .int .i64 (((n : Nat) : Int))) (y_len (ty' := 0) (at_ := #[]) rfl Try.underlying69) rfl ?_
  refine s_y (v := .int .i64 ((((n + 3) : Nat) : Int))) (y_add (a := ((n : Nat) : Int)) (b := 3) (c := (((n + 3) : Nat) : Int)) rfl rfl (wI (by omega) (by omega) (by omega))) rfl ?_
  refine s_y (v := .slice (some ⟨b_2, 0, none⟩) (n + 3) (n + 3)) (y_sliceH (h' := n + 3) rfl rfl Try.underlying69 Try.sizeOf23 (by omega) (by omega) (by omega)) rfl ?_
  refine s_y (v := .slice (some ⟨b_2, 0, none⟩) (n + 3) (n + 3)) (y_assign rfl) rfl ?_
  refine wpL_nil ?_
  refine thenS_n ?_
  refine wpS_seq ?_
  refine wpS_seq ?_
  refine wpS_region ?_
  refine s_y (v := .slice a n c) (y_move rfl) rfl ?_
  refine s_y (v := .int .i64 (((n : Nat) : Int))) (y_len (ty' := 0) (at_ := #[]) rfl Try.underlying69) rfl ?_
  refine s_y (v := .int .i64 (((n : Nat) : Int))) (y_assign rfl) rfl ?_
  refine wpL_nil ?_
  refine thenS_n ?_
  refine wpS_block ?_
  refine wpS_loop (fun m ds σ L => ∃ i : Nat, m = 3 - i ∧ (i ≤ 3) ∧ ds = [] ∧ σ 3 = .pointer (some ⟨b_1, 0, none⟩) ∧ σ 5 = .slice (some ⟨b_2, 0, none⟩) (0 + n) (n + 3) ∧ σ 6 = .slice (some ⟨b_2, 0, none⟩) (n + 3) (n + 3) ∧ σ 7 = .int .i64 ((((n + i) : Nat) : Int)) ∧ Ent L [osl (some ⟨b_2, 0, none⟩) (n + 3) (n + 3) 4 23 ((ownTo l (Rec.mk false 0 0 0) v i).flatMap recV), cel b_1 23 [.bool (v.dead), .int .i64 (v.key.toInt), .int .i64 (v.value.toInt), .int .i64 (v.seq.toInt)]]) (m0 := 3 - 0) ⟨0, rfl, by omega, rfl, rfl, rfl, rfl, rfl, .p .h (.p .h .nil)⟩ ?_
  rintro m ds σ L ⟨i, hm_3, hf0_3, rfl, h3_3, h5_3, h6_3, h7_3, hE_3⟩
  refine wpS_ent hE_3 ?_; clear hE_3
  have hol := ownTo_len l (Rec.mk false 0 0 0) v (i := i) (by omega)
  refine wpS_seq ?_
  refine wpS_seq ?_
  refine wpS_region ?_
  refine s_y (v := .int .i64 ((((n + i) : Nat) : Int))) (y_move h7_3) rfl ?_
  refine s_y (v := .slice (some ⟨b_2, 0, none⟩) (n + 3) (n + 3)) (y_move h6_3) rfl ?_
  refine s_y (v := .int .i64 ((((n + 3) : Nat) : Int))) (y_len (ty' := 0) (at_ := #[]) rfl Try.underlying69) rfl ?_
  refine s_y (v := .bool (decide ((n + i) < (n + 3)))) (y_lss (a := (((n + i) : Nat) : Int)) (b := (((n + 3) : Nat) : Int)) (c := decide ((n + i) < (n + 3))) rfl rfl (decide_eq_decide.2 (by omega))) rfl ?_
  refine wpL_nil ?_
  refine thenS_n ?_
  refine wpS_cond (t := decide ((n + i) < (n + 3))) rfl (fun b4 => ?_) (fun b4 => ?_)
  · -- decide ((n + i) < (n + 3)) true
    have p4 := of_decide_eq_true b4
    refine wpS_skip ?_
    refine thenS_n ?_
    refine wpS_seq ?_
    refine wpS_block ?_
    refine wpS_region ?_
    refine s_y (v := .slice (some ⟨b_2, 0, none⟩) (n + 3) (n + 3)) (y_move h6_3) rfl ?_
    refine s_y (v := .int .i64 ((((n + i) : Nat) : Int))) (y_move h7_3) rfl ?_
    refine s_y (v := .agg #[.bool (v.dead), .int .i64 (v.key.toInt), .int .i64 (v.value.toInt), .int .i64 (v.seq.toInt)]) (y_loadN (vs := [.bool (v.dead), .int .i64 (v.key.toInt), .int .i64 (v.value.toInt), .int .i64 (v.seq.toInt)]) h3_3 Try.isAgg23 Try.sizeOf23 (ownN (.t .h) rfl)) rfl ?_
    refine s_y (v := .pointer (some ⟨aB (some ⟨b_2, 0, none⟩), aO (some ⟨b_2, 0, none⟩) + (n + i) * 4, none⟩)) (y_idx (o := (n + i) * 4) rfl rfl Try.underlying69 Try.sizeOf23 (oslR .h) ((fl_len recV_len _).trans (by first | omega | (simp only [List.length_set, List.length_take, List.length_drop]; done) | (simp only [List.length_set, List.length_take, List.length_drop]; omega))) (by decide) (by omega) (by omega) (by omega)) rfl ?_
    refine s_e0 ?_
    refine e_storeL' (enc := recV) (xs := (ownTo l (Rec.mk false 0 0 0) v i)) (y := v) (zs := (ownTo l (Rec.mk false 0 0 0) v (i + 1))) recV_len recV_one (by decide) rfl rfl rfl Try.sizeOf23 .h (by omega) (by rw [show n + i = l.length + i by omega]; exact ownTo_set l (Rec.mk false 0 0 0) v (by omega)) ?_
    refine wpL_nil ?_
    refine blockS_n ?_
    refine thenS_n ?_
    refine wpS_region ?_
    refine s_y (v := .int .i64 ((((n + i) : Nat) : Int))) (y_move h7_3) rfl ?_
    refine s_y (v := .int .i64 (((((n + i) + 1) : Nat) : Int))) (y_add (a := (((n + i) : Nat) : Int)) (b := 1) (c := ((((n + i) + 1) : Nat) : Int)) rfl rfl (wI (by omega) (by omega) (by omega))) rfl ?_
    refine s_y (v := .int .i64 (((((n + i) + 1) : Nat) : Int))) (y_assign rfl) rfl ?_
    refine wpL_nil ?_
    refine thenS_n ?_
    exact ⟨_, by omega, ⟨(i + 1), rfl, by omega, rfl, h3_3, h5_3, h6_3, rfl, .p .h (.p .h .nil)⟩⟩
  · -- decide ((n + i) < (n + 3)) false
    have p4 := of_decide_eq_false b4
    refine wpS_exit ?_
    refine thenS_x ?_
    refine thenS_x ?_
    refine blockS_h ?_
    refine thenS_n ?_
    refine wpS_seq ?_
    refine wpS_region ?_
    refine s_y (v := .slice (some ⟨b_2, 0, none⟩) (0 + n) (n + 3)) (y_move h5_3) rfl ?_
    refine s_y (v := .slice (some ⟨b_2, 0, none⟩) (0 + n) (n + 3)) (y_assign rfl) rfl ?_
    refine wpL_nil ?_
    refine thenS_n ?_
    refine wpS_ret ?_
    refine fin1 (M := [osl (some ⟨b_2, 0, none⟩) (n + 3) (n + 3) 4 23 ((ownTo l (Rec.mk false 0 0 0) v i).flatMap recV)]) (v := .slice (some ⟨b_2, 0, none⟩) (0 + n) (n + 3)) (.inr rfl) (.p .h .nil) Try.results75 rfl ?_
    exact fun w' hs => ⟨b_2, by rw [Nat.zero_add], by rw [show i = 3 by omega, ownTo_3] at hs; exact hs, trivial⟩

theorem keptR_c (b : Nat) (a : Option Addr) (n c : Nat) (l : List Rec) (v : Rec) (w : World) (hn : l.length = n) (hr : Rds w a (l.flatMap recV)) (hb : n ≤ 1000000) (hro : Rds w (some ⟨b, 0, none⟩) ((ownL l v).flatMap recV)) : Pure Try.prog 81 #[.slice (some ⟨b, 0, none⟩) n (n + 3), .slice a n c, .agg #[.bool (v.dead), .int .i64 (v.key.toInt), .int .i64 (v.value.toInt), .int .i64 (v.seq.toInt)]] w (.bool true) := by
  refine calls_S (n := 40) (σ0 := (upd (upd (upd fr0 0 (.slice (some ⟨b, 0, none⟩) n (n + 3))) 1 (.slice a n c)) 2 (.agg #[.bool (v.dead), .int .i64 (v.key.toInt), .int .i64 (v.value.toInt), .int .i64 (v.seq.toInt)]))) (D := []) (A := []) Try.func81 rfl Try.ntmps81 rfl (a3_fr _ _ _) (SH.start w) ?_
  have hol := ownL_len l v
  have hrl : Rds w (some ⟨b, 0, none⟩) (l.flatMap recV) := by have h1 := hro.take (l.length * 4); rw [fl_take recV_len, ownL_take] at h1; exact h1
  refine wpS_seq ?_
  refine wpS_region ?_
  refine s_e rfl ?_
  refine e_box (v := .agg #[.bool (v.dead), .int .i64 (v.key.toInt), .int .i64 (v.value.toInt), .int .i64 (v.seq.toInt)]) (l := [.bool (v.dead), .int .i64 (v.key.toInt), .int .i64 (v.value.toInt), .int .i64 (v.seq.toInt)]) rfl rfl ?_
  intro b_1
  refine s_y (v := .bool false) (y_assign rfl) rfl ?_
  refine wpL_nil ?_
  refine thenS_n ?_
  refine wpS_seq ?_
  refine wpS_seq ?_
  refine wpS_region ?_
  refine s_y (v := .slice (some ⟨b, 0, none⟩) n (n + 3)) (y_move rfl) rfl ?_
  refine s_y (v := .slice a n c) (y_move rfl) rfl ?_
  refine s_y (v := .bool (decide (l = l))) (y_call (args := #[.slice (some ⟨b, 0, none⟩) n (n + 3), .slice a n c]) (v := .bool (decide (l = l))) Try.call77 (ev2 rfl rfl) (fun w hs => plain_c (some ⟨b, 0, none⟩) a n (n + 3) n c l l w hn hn ((oldR hrl) w hs) ((oldR hr) w hs) (by omega) (by omega))) rfl ?_
  refine s_y (v := .bool (!(decide (l = l)))) (y_not (b := decide (l = l)) rfl) rfl ?_
  refine s_y (v := .bool (!(decide (l = l)))) (y_move rfl) rfl ?_
  refine s_gy (y_move rfl) rfl rfl rfl rfl (b' := !(decide (l = l))) rfl (by simp) ?_
  refine s_gy (y_cap rfl Try.underlying69) rfl rfl rfl rfl (b' := !(decide (l = l))) rfl (by simp) ?_
  refine s_gy (y_move rfl) rfl rfl rfl rfl (b' := !(decide (l = l))) rfl (by simp) ?_
  refine s_gy (y_len (ty' := 0) (at_ := #[]) rfl Try.underlying69) rfl rfl rfl rfl (b' := !(decide (l = l))) rfl (by simp) ?_
  refine s_gy (y_add (a := ((n : Nat) : Int)) (b := 3) (c := (((n + 3) : Nat) : Int)) rfl rfl (wI (by omega) (by omega) (by omega))) rfl rfl rfl rfl (b' := !(decide (l = l))) rfl (by simp) ?_
  refine s_gy (y_lss (a := (((n + 3) : Nat) : Int)) (b := (((n + 3) : Nat) : Int)) (c := decide ((n + 3) < (n + 3))) rfl rfl (decide_eq_decide.2 (by omega))) rfl rfl rfl rfl (b' := !(decide (l = l))) rfl (by simp) ?_
  refine s_y (v := .bool (decide ((n + 3) < (n + 3)))) (y_pickF (b := !(decide (l = l))) (v := .bool (decide ((n + 3) < (n + 3)))) rfl (by simp) rfl) rfl ?_
  refine wpL_nil ?_
  refine thenS_n ?_
  refine wpS_cond_F (t := decide ((n + 3) < (n + 3))) rfl (decide_eq_false (by omega)) ?_
  refine wpS_skip ?_
  refine thenS_n ?_
  refine wpS_seq ?_
  refine wpS_region ?_
  refine s_y (v := .slice (some ⟨b, 0, none⟩) n (n + 3)) (y_move rfl) rfl ?_
  refine s_y (v := .slice a n c) (y_move rfl) rfl ?_
  refine s_y (v := .int .i64 (((n : Nat) : Int))) (y_len (ty' := 0) (at_ := #[]) rfl Try.underlying69) rfl ?_
  refine s_y (v := .int .i64 ((((n + 3) : Nat) : Int))) (y_add (a := ((n : Nat) : Int)) (b := 3) (c := (((n + 3) : Nat) : Int)) rfl rfl (wI (by omega) (by omega) (by omega))) rfl ?_
  refine s_y (v := .slice (some ⟨b, 0, none⟩) (n + 3) (n + 3)) (y_sliceH (h' := n + 3) rfl rfl Try.underlying69 Try.sizeOf23 (by omega) (by omega) (by omega)) rfl ?_
  refine s_y (v := .slice (some ⟨b, 0, none⟩) (n + 3) (n + 3)) (y_assign rfl) rfl ?_
  refine wpL_nil ?_
  refine thenS_n ?_
  refine wpS_seq ?_
  refine wpS_seq ?_
  refine wpS_region ?_
  refine s_y (v := .slice a n c) (y_move rfl) rfl ?_
  refine s_y (v := .int .i64 (((n : Nat) : Int))) (y_len (ty' := 0) (at_ := #[]) rfl Try.underlying69) rfl ?_
  refine s_y (v := .int .i64 (((n : Nat) : Int))) (y_assign rfl) rfl ?_
  refine wpL_nil ?_
  refine thenS_n ?_
  refine wpS_block ?_
  refine wpS_loop (fun m ds σ L => ∃ i : Nat, m = 3 - i ∧ (i ≤ 3) ∧ ds = [] ∧ σ 5 = .pointer (some ⟨b_1, 0, none⟩) ∧ σ 7 = .slice (some ⟨b, 0, none⟩) (n + 3) (n + 3) ∧ σ 8 = .int .i64 ((((n + i) : Nat) : Int)) ∧ Ent L [cel b_1 23 [.bool (v.dead), .int .i64 (v.key.toInt), .int .i64 (v.value.toInt), .int .i64 (v.seq.toInt)]]) (m0 := 3 - 0) ⟨0, rfl, by omega, rfl, rfl, rfl, rfl, .p .h .nil⟩ ?_
  rintro m ds σ L ⟨i, hm_2, hf0_2, rfl, h5_2, h7_2, h8_2, hE_2⟩
  refine wpS_ent hE_2 ?_; clear hE_2
  refine wpS_seq ?_
  refine wpS_seq ?_
  refine wpS_region ?_
  refine s_y (v := .int .i64 ((((n + i) : Nat) : Int))) (y_move h8_2) rfl ?_
  refine s_y (v := .slice (some ⟨b, 0, none⟩) (n + 3) (n + 3)) (y_move h7_2) rfl ?_
  refine s_y (v := .int .i64 ((((n + 3) : Nat) : Int))) (y_len (ty' := 0) (at_ := #[]) rfl Try.underlying69) rfl ?_
  refine s_y (v := .bool (decide ((n + i) < (n + 3)))) (y_lss (a := (((n + i) : Nat) : Int)) (b := (((n + 3) : Nat) : Int)) (c := decide ((n + i) < (n + 3))) rfl rfl (decide_eq_decide.2 (by omega))) rfl ?_
  refine wpL_nil ?_
  refine thenS_n ?_
  refine wpS_cond (t := decide ((n + i) < (n + 3))) rfl (fun b3 => ?_) (fun b3 => ?_)
  · -- decide ((n + i) < (n + 3)) true
    have p3 := of_decide_eq_true b3
    refine wpS_skip ?_
    refine thenS_n ?_
    refine wpS_seq ?_
    refine wpS_block ?_
    refine wpS_seq ?_
    refine wpS_lex (by kernel_rfl) (by kernel_rfl) ?_
    refine x_y (v := .slice (some ⟨b, 0, none⟩) (n + 3) (n + 3)) (y_move h7_2) rfl ?_
    refine x_y (v := .int .i64 ((((n + i) : Nat) : Int))) (y_move h8_2) rfl ?_
    refine x_y (v := .pointer (some ⟨aB (some ⟨b, 0, none⟩), aO (some ⟨b, 0, none⟩) + (n + i) * 4, none⟩)) (y_idx (o := (n + i) * 4) rfl rfl Try.underlying69 Try.sizeOf23 (oldR hro) ((fl_len recV_len _).trans (by first | omega | (simp only [List.length_set, List.length_take, List.length_drop]; done) | (simp only [List.length_set, List.length_take, List.length_drop]; omega))) (by decide) (by omega) (by omega) (by omega)) rfl ?_
    refine x_y (v := .agg #[.bool (((ownL l v).getD (n + i) default).dead), .int .i64 ((((ownL l v).getD (n + i) default).key).toInt), .int .i64 ((((ownL l v).getD (n + i) default).value).toInt), .int .i64 ((((ownL l v).getD (n + i) default).seq).toInt)]) (y_loadN (vs := recV ((ownL l v).getD (n + i) default)) rfl Try.isAgg23 Try.sizeOf23 (rdN (oldR hro) (fl_getN recV_len (ownL l v) (n + i) (by first | omega | (simp only [List.length_set, List.length_take, List.length_drop]; done) | (simp only [List.length_set, List.length_take, List.length_drop]; omega))))) rfl ?_
    refine x_y (v := .agg #[.bool (v.dead), .int .i64 (v.key.toInt), .int .i64 (v.value.toInt), .int .i64 (v.seq.toInt)]) (y_loadN (vs := [.bool (v.dead), .int .i64 (v.key.toInt), .int .i64 (v.value.toInt), .int .i64 (v.seq.toInt)]) h5_2 Try.isAgg23 Try.sizeOf23 (ownN .h rfl)) rfl ?_
    refine x_y (v := .bool (!(decide (((ownL l v).getD (n + i) default) = v)))) (y_neqS (a := #[.bool (((ownL l v).getD (n + i) default).dead), .int .i64 ((((ownL l v).getD (n + i) default).key).toInt), .int .i64 ((((ownL l v).getD (n + i) default).value).toInt), .int .i64 ((((ownL l v).getD (n + i) default).seq).toInt)]) (b := #[.bool (v.dead), .int .i64 (v.key.toInt), .int .i64 (v.value.toInt), .int .i64 (v.seq.toInt)]) (c := decide (((ownL l v).getD (n + i) default) = v)) Try.eqGuardType23 (fun w => equalR w ((ownL l v).getD (n + i) default) v) rfl rfl) rfl ?_
    refine x_nil ?_
    refine thenS_n ?_
    refine wpS_cond_F (t := !(decide (((ownL l v).getD (n + i) default) = v))) rfl (by rw [ownL_at l v (by omega) (by omega)]; simp) ?_
    refine wpS_skip ?_
    refine blockS_n ?_
    refine thenS_n ?_
    refine wpS_region ?_
    refine s_y (v := .int .i64 ((((n + i) : Nat) : Int))) (y_move h8_2) rfl ?_
    refine s_y (v := .int .i64 (((((n + i) + 1) : Nat) : Int))) (y_add (a := (((n + i) : Nat) : Int)) (b := 1) (c := ((((n + i) + 1) : Nat) : Int)) rfl rfl (wI (by omega) (by omega) (by omega))) rfl ?_
    refine s_y (v := .int .i64 (((((n + i) + 1) : Nat) : Int))) (y_assign rfl) rfl ?_
    refine wpL_nil ?_
    refine thenS_n ?_
    exact ⟨_, by omega, ⟨(i + 1), rfl, by omega, rfl, h5_2, h7_2, rfl, .p .h .nil⟩⟩
  · -- decide ((n + i) < (n + 3)) false
    have p3 := of_decide_eq_false b3
    refine wpS_exit ?_
    refine thenS_x ?_
    refine thenS_x ?_
    refine blockS_h ?_
    refine thenS_n ?_
    refine wpS_seq ?_
    refine wpS_region ?_
    refine s_y (v := .bool true) (y_assign rfl) rfl ?_
    refine wpL_nil ?_
    refine thenS_n ?_
    refine wpS_ret ?_
    refine fin1 (M := []) (v := .bool true) (.inr rfl) (.nil) Try.results81 rfl ?_
    exact fun w' hs => ⟨rfl, hs⟩

end Go.Proofs.Ytldkjjnjdjfipaa
