/- ShapeOrder, walked. -/
import Derived.Test.YtldkjjnjdjfipaaWSpt5
namespace Go.Proofs.Ytldkjjnjdjfipaa
open Go Go.RowKit
set_option linter.unusedVariables false
set_option linter.unusedSimpArgs false
set_option maxRecDepth 10000
set_option maxHeartbeats 1000000

theorem writes_len2 (p : Par) (i : Int) : (writesP p i).length ≤ 4 := by
  unfold writesP
  split
  · exact wlen_bd (tk_n1 (by assumption)).2 _
  · simp
theorem w_new {p : Par} (hsm : Small p) (ho : Order p) {i k : Nat} (hi : i < cnt p) (hk : k < (writesP p ((i : Nat) : Int)).length) : (writesP p ((i : Nat) : Int)).getD k default ∉ allW p i ++ (writesP p ((i : Nat) : Int)).take k := by
  rw [writes_at hi] at hk ⊢
  exact all_new hsm ho hi hk
theorem w_mk {p : Par} (hsm : Small p) {i k : Nat} (hi : i < cnt p) (hk : k < (writesP p ((i : Nat) : Int)).length) : makesP p ((writesP p ((i : Nat) : Int)).getD k default) = ((i : Nat) : Int) := by
  rw [writes_at hi] at hk ⊢
  exact all_makes hsm hi hk
theorem w_next {p : Par} {i : Nat} (hi : i < cnt p) {k : Nat} (hk : (writesP p ((i : Nat) : Int)).length ≤ k) : allW p i ++ (writesP p ((i : Nat) : Int)).take k = allW p (i + 1) := by
  rw [List.take_of_length_le hk, writes_at hi, allW_next]
theorem tkg_next {α : Type} [Inhabited α] {l : List α} {k : Nat} (hk : k < l.length) : l.take k ++ [l.getD k default] = l.take (k + 1) := by
  rw [List.take_succ_eq_append_getElem hk, List.getD_eq_getElem?_getD, List.getElem?_eq_getElem hk]
  rfl

theorem order_law (p : Par) (w : World) : Pure Try.prog 36 #[.agg #[.int .i64 (p.n0), .int .i64 (p.n1), .int .i64 (p.n2), .int .i64 (p.n3)]] w (.bool true) := by
  refine calls_S (n := 116) (σ0 := (upd fr0 0 (.agg #[.int .i64 (p.n0), .int .i64 (p.n1), .int .i64 (p.n2), .int .i64 (p.n3)]))) (D := []) (A := []) Try.func36 rfl Try.ntmps36 rfl (a1_fr _) (SH.start w) ?_
  have hsm := smallF p
  have ho := orderF p
  have hcl := hsm.len
  have hll := lastS_len (few p)
  have h88 := hsm.h8
  refine wpS_seq ?_
  refine wpS_region ?_
  refine s_e rfl ?_
  refine e_box (v := .agg #[.int .i64 (p.n0), .int .i64 (p.n1), .int .i64 (p.n2), .int .i64 (p.n3)]) (l := [.int .i64 (p.n0), .int .i64 (p.n1), .int .i64 (p.n2), .int .i64 (p.n3)]) rfl rfl ?_
  intro b_1
  refine s_y (v := .bool false) (y_assign rfl) rfl ?_
  refine wpL_nil ?_
  refine thenS_n ?_
  refine wpS_seq ?_
  refine wpS_region ?_
  refine s_y (v := .agg #[.int .i64 (p.n0), .int .i64 (p.n1), .int .i64 (p.n2), .int .i64 (p.n3)]) (y_loadN (vs := [.int .i64 (p.n0), .int .i64 (p.n1), .int .i64 (p.n2), .int .i64 (p.n3)]) rfl Try.isAgg53 Try.sizeOf53 (ownN .h rfl)) rfl ?_
  refine s_y (v := .agg #[.int .i64 ((few p).n0), .int .i64 ((few p).n1), .int .i64 ((few p).n2), .int .i64 ((few p).n3)]) (y_call (args := #[.agg #[.int .i64 (p.n0), .int .i64 (p.n1), .int .i64 (p.n2), .int .i64 (p.n3)]]) (v := .agg #[.int .i64 ((few p).n0), .int .i64 ((few p).n1), .int .i64 ((few p).n2), .int .i64 ((few p).n3)]) Try.call62 (ev1 rfl) (fun w hs => few_c p w)) rfl ?_
  refine s_e0 ?_
  refine e_store (vs := [.int .i64 ((few p).n0), .int .i64 ((few p).n1), .int .i64 ((few p).n2), .int .i64 ((few p).n3)]) (l' := [.int .i64 ((few p).n0), .int .i64 ((few p).n1), .int .i64 ((few p).n2), .int .i64 ((few p).n3)]) rfl rfl rfl rfl Try.sizeOf53 .h (Nat.le_of_ble_eq_true rfl) rfl ?_
  refine wpL_nil ?_
  refine thenS_n ?_
  refine wpS_seq ?_
  refine wpS_region ?_
  refine s_y (v := .agg #[.int .i64 ((few p).n0), .int .i64 ((few p).n1), .int .i64 ((few p).n2), .int .i64 ((few p).n3)]) (y_loadN (vs := [.int .i64 ((few p).n0), .int .i64 ((few p).n1), .int .i64 ((few p).n2), .int .i64 ((few p).n3)]) rfl Try.isAgg53 Try.sizeOf53 (ownN .h rfl)) rfl ?_
  refine s_y (v := .int .i64 ((((cnt (few p)) : Nat) : Int))) (y_call (args := #[.agg #[.int .i64 ((few p).n0), .int .i64 ((few p).n1), .int .i64 ((few p).n2), .int .i64 ((few p).n3)]]) (v := .int .i64 ((((cnt (few p)) : Nat) : Int))) Try.call65 (ev1 rfl) (fun w hs => count2_c (few p) w)) rfl ?_
  refine s_y (v := .int .i64 ((((cnt (few p)) : Nat) : Int))) (y_assign rfl) rfl ?_
  refine wpL_nil ?_
  refine thenS_n ?_
  refine wpS_seq ?_
  refine wpS_seq ?_
  refine wpS_region ?_
  refine s_y (v := .bool true) (y_call (args := #[]) (v := .bool true) Try.call64 ev0 (fun w hs => awake17_c w)) rfl ?_
  refine s_y (v := .bool false) (y_notK (b := true) (c := false) rfl rfl) rfl ?_
  refine s_y (v := .bool false) (y_move rfl) rfl ?_
  refine s_gy (y_move rfl) rfl rfl rfl rfl rfl rfl ?_
  refine s_gy (y_gtr (a := (((cnt (few p)) : Nat) : Int)) (b := 500) (c := decide ((500 : Nat) < (cnt (few p)))) rfl rfl (decide_eq_decide.2 (by omega))) rfl rfl rfl rfl rfl rfl ?_
  refine s_y (v := .bool (decide ((500 : Nat) < (cnt (few p))))) (y_pickF (v := .bool (decide ((500 : Nat) < (cnt (few p))))) rfl rfl rfl) rfl ?_
  refine wpL_nil ?_
  refine thenS_n ?_
  refine wpS_cond_F (t := decide ((500 : Nat) < (cnt (few p)))) rfl (decide_eq_false (by omega)) ?_
  refine wpS_skip ?_
  refine thenS_n ?_
  refine wpS_seq ?_
  refine wpS_region ?_
  refine s_y (v := .slice none 0 0) (y_assign rfl) rfl ?_
  refine wpL_nil ?_
  refine thenS_n ?_
  refine wpS_seq ?_
  refine wpS_region ?_
  refine s_y (v := .int .i64 ((((cnt (few p)) : Nat) : Int))) (y_move rfl) rfl ?_
  refine s_e rfl ?_
  refine e_make (enc := boolV) (y0 := false) (m := (cnt (few p))) (c := (cnt (few p))) (bytes := 1) boolV_len (by decide) Try.underlying50 (i := Try.t4) rfl rfl rfl rfl rfl rfl rfl (by omega) (by omega) (by omega) ?_
  intro b_2
  refine s_y (v := .slice (some ⟨b_2, 0, none⟩) (cnt (few p)) (cnt (few p))) (y_assign rfl) rfl ?_
  refine wpL_nil ?_
  refine thenS_n ?_
  refine wpS_seq ?_
  refine wpS_seq ?_
  refine wpS_region ?_
  refine s_y (v := .int .i64 0) (y_assign rfl) rfl ?_
  refine wpL_nil ?_
  refine thenS_n ?_
  refine wpS_block ?_
  rw [doneTo_0]
  refine wpS_nil0 3 144 ?_
  refine wpS_loop (fun mez ds σ L => ∃ i : Nat, ∃ xs : List Spot, ∃ a1 : Option Addr, ∃ c1 : Nat, mez = (cnt (few p)) - i ∧ (i ≤ (cnt (few p))) ∧ (xs.length ≤ 4 * i) ∧ (xs = allW (few p) i) ∧ ds = [] ∧ σ 1 = .pointer (some ⟨b_1, 0, none⟩) ∧ σ 3 = .int .i64 ((((cnt (few p)) : Nat) : Int)) ∧ σ 4 = .slice a1 xs.length c1 ∧ σ 5 = .slice (some ⟨b_2, 0, none⟩) (cnt (few p)) (cnt (few p)) ∧ σ 6 = .int .i64 (((i : Nat) : Int)) ∧ Ent L [osl a1 c1 xs.length 3 144 (xs.flatMap spotV), osl (some ⟨b_2, 0, none⟩) (cnt (few p)) (cnt (few p)) 1 4 ((doneTo (cnt (few p)) i).flatMap boolV), cel b_1 53 [.int .i64 ((few p).n0), .int .i64 ((few p).n1), .int .i64 ((few p).n2), .int .i64 ((few p).n3)]]) (m0 := (cnt (few p)) - 0) ⟨0, [], none, 0, rfl, by omega, by simp, rfl, rfl, rfl, rfl, rfl, rfl, rfl, .p .h (.p .h (.p .h .nil))⟩ ?_
  rintro mez ds σ L ⟨i, xs, a1, c1, hm_3, hf0_3, hf1_3, hf2_3, rfl, h1_3, h3_3, h4_3, h5_3, h6_3, hE_3⟩
  refine wpS_ent hE_3 ?_; clear hE_3
  have hwl := writes_len2 (few p) ((i : Nat) : Int)
  have hrl2 := reads_len (few p) ((i : Nat) : Int)
  have hdl := doneTo_len (cnt (few p)) i
  refine wpS_seq ?_
  refine wpS_seq ?_
  refine wpS_region ?_
  refine s_y (v := .int .i64 (((i : Nat) : Int))) (y_move h6_3) rfl ?_
  refine s_y (v := .int .i64 ((((cnt (few p)) : Nat) : Int))) (y_move h3_3) rfl ?_
  refine s_y (v := .bool (decide (i < (cnt (few p))))) (y_lss (a := ((i : Nat) : Int)) (b := (((cnt (few p)) : Nat) : Int)) (c := decide (i < (cnt (few p)))) rfl rfl (decide_eq_decide.2 (by omega))) rfl ?_
  refine wpL_nil ?_
  refine thenS_n ?_
  refine wpS_cond (t := decide (i < (cnt (few p)))) rfl (fun b4 => ?_) (fun b4 => ?_)
  · -- decide (i < (cnt (few p))) true
    have p4 := of_decide_eq_true b4
    have hi : i < cnt (few p) := by omega
    refine wpS_skip ?_
    refine thenS_n ?_
    refine wpS_seq ?_
    refine wpS_block ?_
    refine wpS_seq ?_
    refine wpS_region ?_
    refine s_y (v := .agg #[.int .i64 ((few p).n0), .int .i64 ((few p).n1), .int .i64 ((few p).n2), .int .i64 ((few p).n3)]) (y_loadN (vs := [.int .i64 ((few p).n0), .int .i64 ((few p).n1), .int .i64 ((few p).n2), .int .i64 ((few p).n3)]) h1_3 Try.isAgg53 Try.sizeOf53 (ownN (.t (.t .h)) rfl)) rfl ?_
    refine s_y (v := .int .i64 (((i : Nat) : Int))) (y_move h6_3) rfl ?_
    refine s_e rfl ?_
    refine e_call (f := 126) (args := #[.agg #[.int .i64 ((few p).n0), .int .i64 ((few p).n1), .int .i64 ((few p).n2), .int .i64 ((few p).n3)], .int .i64 (((i : Nat) : Int))]) (X := Option Addr × Nat) (A := []) (M := [osl a1 c1 xs.length 3 144 (xs.flatMap spotV), osl (some ⟨b_2, 0, none⟩) (cnt (few p)) (cnt (few p)) 1 4 ((doneTo (cnt (few p)) i).flatMap boolV), cel b_1 53 [.int .i64 ((few p).n0), .int .i64 ((few p).n1), .int .i64 ((few p).n2), .int .i64 ((few p).n3)]]) (V := slV (writesP (few p) ((i : Nat) : Int))) (A' := fun x => [slR spotV 3 144 (writesP (few p) ((i : Nat) : Int)) x]) (C := fun _ => True) Try.call126 (ev2 rfl rfl) (.p .h (.p .h (.p .h .nil))) (fun w hs => writes_c (few p) ((i : Nat) : Int) w) ?_
    rintro ⟨a_5, c_6⟩ -
    refine s_y (v := .slice a_5 ((writesP (few p) ((i : Nat) : Int)).length) c_6) (y_assign rfl) rfl ?_
    refine wpL_nil ?_
    refine thenS_n ?_
    refine wpS_seq ?_
    refine wpS_seq ?_
    refine wpS_region ?_
    refine s_y (v := .int .i64 0) (y_assign rfl) rfl ?_
    refine wpL_nil ?_
    refine thenS_n ?_
    refine wpS_block ?_
    refine wpS_loop (fun mez ds σ L => ∃ k : Nat, ∃ ys : List Spot, ∃ a2 : Option Addr, ∃ c2 : Nat, mez = (writesP (few p) ((i : Nat) : Int)).length - k ∧ (k ≤ (writesP (few p) ((i : Nat) : Int)).length) ∧ (ys.length ≤ 4 * i + k) ∧ (ys = allW (few p) i ++ (writesP (few p) ((i : Nat) : Int)).take k) ∧ ds = [] ∧ σ 1 = .pointer (some ⟨b_1, 0, none⟩) ∧ σ 3 = .int .i64 ((((cnt (few p)) : Nat) : Int)) ∧ σ 4 = .slice a2 ys.length c2 ∧ σ 5 = .slice (some ⟨b_2, 0, none⟩) (cnt (few p)) (cnt (few p)) ∧ σ 6 = .int .i64 (((i : Nat) : Int)) ∧ σ 7 = .slice a_5 ((writesP (few p) ((i : Nat) : Int)).length) c_6 ∧ σ 8 = .int .i64 (((k : Nat) : Int)) ∧ Ent L [osl a_5 c_6 ((writesP (few p) ((i : Nat) : Int)).length) 3 144 ((writesP (few p) ((i : Nat) : Int)).flatMap spotV), osl a2 c2 ys.length 3 144 (ys.flatMap spotV), osl (some ⟨b_2, 0, none⟩) (cnt (few p)) (cnt (few p)) 1 4 ((doneTo (cnt (few p)) i).flatMap boolV), cel b_1 53 [.int .i64 ((few p).n0), .int .i64 ((few p).n1), .int .i64 ((few p).n2), .int .i64 ((few p).n3)]]) (m0 := (writesP (few p) ((i : Nat) : Int)).length - 0) ⟨0, xs, a1, c1, rfl, by omega, by omega, (by rw [(by assumption : xs = _)]; simp), rfl, h1_3, h3_3, h4_3, h5_3, h6_3, rfl, rfl, .p .h (.p .h (.p .h (.p .h .nil)))⟩ ?_
    rintro mez ds σ L ⟨k, ys, a2, c2, hm_8, hf0_8, hf1_8, hf2_8, rfl, h1_8, h3_8, h4_8, h5_8, h6_8, h7_8, h8_8, hE_8⟩
    refine wpS_ent hE_8 ?_; clear hE_8
    refine wpS_seq ?_
    refine wpS_seq ?_
    refine wpS_region ?_
    refine s_y (v := .int .i64 (((k : Nat) : Int))) (y_move h8_8) rfl ?_
    refine s_y (v := .slice a_5 ((writesP (few p) ((i : Nat) : Int)).length) c_6) (y_move h7_8) rfl ?_
    refine s_y (v := .int .i64 ((((writesP (few p) ((i : Nat) : Int)).length : Nat) : Int))) (y_len (ty' := 0) (at_ := #[]) rfl Try.underlying58) rfl ?_
    refine s_y (v := .bool (decide (k < ((writesP (few p) ((i : Nat) : Int)).length)))) (y_lss (a := ((k : Nat) : Int)) (b := (((writesP (few p) ((i : Nat) : Int)).length : Nat) : Int)) (c := decide (k < ((writesP (few p) ((i : Nat) : Int)).length))) rfl rfl (decide_eq_decide.2 (by omega))) rfl ?_
    refine wpL_nil ?_
    refine thenS_n ?_
    refine wpS_cond (t := decide (k < ((writesP (few p) ((i : Nat) : Int)).length))) rfl (fun b9 => ?_) (fun b9 => ?_)
    · -- decide (k < ((writesP (few p) ((i : Nat) : Int)).length)) true
      have p9 := of_decide_eq_true b9
      refine wpS_skip ?_
      refine thenS_n ?_
      refine wpS_seq ?_
      refine wpS_block ?_
      refine wpS_seq ?_
      refine wpS_seq ?_
      refine wpS_lex (by kernel_rfl) (by kernel_rfl) ?_
      refine x_y (v := .slice a2 ys.length c2) (y_move h4_8) rfl ?_
      refine x_y (v := .slice a_5 ((writesP (few p) ((i : Nat) : Int)).length) c_6) (y_move h7_8) rfl ?_
      refine x_y (v := .int .i64 (((k : Nat) : Int))) (y_move h8_8) rfl ?_
      refine x_y (v := .pointer (some ⟨aB a_5, aO a_5 + k * 3, none⟩)) (y_idx (o := k * 3) rfl rfl Try.underlying58 Try.sizeOf144 (oslR .h) (fl_len spotV_len _) (by decide) (by omega) (by omega) (by omega)) rfl ?_
      refine x_y (v := .agg #[.int .i64 (((writesP (few p) ((i : Nat) : Int)).getD k default).s0), .int .i64 (((writesP (few p) ((i : Nat) : Int)).getD k default).s1), .int .i64 (((writesP (few p) ((i : Nat) : Int)).getD k default).s2)]) (y_loadN (vs := spotV ((writesP (few p) ((i : Nat) : Int)).getD k default)) rfl Try.isAgg144 Try.sizeOf144 (rdN (oslR .h) (fl_getN spotV_len (writesP (few p) ((i : Nat) : Int)) k (by first | omega | (simp only [List.length_set, List.length_take, List.length_drop]; done) | (simp only [List.length_set, List.length_take, List.length_drop]; omega))))) rfl ?_
      refine x_y (v := .bool (decide (((writesP (few p) ((i : Nat) : Int)).getD k default) ∈ ys))) (y_call (args := #[.slice a2 ys.length c2, .agg #[.int .i64 (((writesP (few p) ((i : Nat) : Int)).getD k default).s0), .int .i64 (((writesP (few p) ((i : Nat) : Int)).getD k default).s1), .int .i64 (((writesP (few p) ((i : Nat) : Int)).getD k default).s2)]]) (v := .bool (decide (((writesP (few p) ((i : Nat) : Int)).getD k default) ∈ ys))) Try.call133 (ev2 rfl rfl) (fun w hs => inS_c a2 ys.length c2 ys ((writesP (few p) ((i : Nat) : Int)).getD k default) w rfl (oslR (.t .h) w hs) (by omega))) rfl ?_
      refine x_y (v := .bool (decide (((writesP (few p) ((i : Nat) : Int)).getD k default) ∈ ys))) (y_move rfl) rfl ?_
      refine x_gy (y_loadN (vs := [.int .i64 ((few p).n0), .int .i64 ((few p).n1), .int .i64 ((few p).n2), .int .i64 ((few p).n3)]) h1_8 Try.isAgg53 Try.sizeOf53 (ownN (.t (.t (.t .h))) rfl)) rfl rfl rfl rfl (b' := decide (((writesP (few p) ((i : Nat) : Int)).getD k default) ∈ ys)) rfl (decide_eq_false (by rw [(by assumption : ys = _)]; exact w_new hsm ho hi (by omega))) ?_
      refine x_gy (y_move h7_8) rfl rfl rfl rfl (b' := decide (((writesP (few p) ((i : Nat) : Int)).getD k default) ∈ ys)) rfl (decide_eq_false (by rw [(by assumption : ys = _)]; exact w_new hsm ho hi (by omega))) ?_
      refine x_gy (y_move h8_8) rfl rfl rfl rfl (b' := decide (((writesP (few p) ((i : Nat) : Int)).getD k default) ∈ ys)) rfl (decide_eq_false (by rw [(by assumption : ys = _)]; exact w_new hsm ho hi (by omega))) ?_
      refine x_gy (y_idx (o := k * 3) rfl rfl Try.underlying58 Try.sizeOf144 (oslR .h) (fl_len spotV_len _) (by decide) (by omega) (by omega) (by omega)) rfl rfl rfl rfl (b' := decide (((writesP (few p) ((i : Nat) : Int)).getD k default) ∈ ys)) rfl (decide_eq_false (by rw [(by assumption : ys = _)]; exact w_new hsm ho hi (by omega))) ?_
      refine x_gy (y_loadN (vs := spotV ((writesP (few p) ((i : Nat) : Int)).getD k default)) rfl Try.isAgg144 Try.sizeOf144 (rdN (oslR .h) (fl_getN spotV_len (writesP (few p) ((i : Nat) : Int)) k (by first | omega | (simp only [List.length_set, List.length_take, List.length_drop]; done) | (simp only [List.length_set, List.length_take, List.length_drop]; omega))))) rfl rfl rfl rfl (b' := decide (((writesP (few p) ((i : Nat) : Int)).getD k default) ∈ ys)) rfl (decide_eq_false (by rw [(by assumption : ys = _)]; exact w_new hsm ho hi (by omega))) ?_
      refine x_gy (y_call (args := #[.agg #[.int .i64 ((few p).n0), .int .i64 ((few p).n1), .int .i64 ((few p).n2), .int .i64 ((few p).n3)], .agg #[.int .i64 (((writesP (few p) ((i : Nat) : Int)).getD k default).s0), .int .i64 (((writesP (few p) ((i : Nat) : Int)).getD k default).s1), .int .i64 (((writesP (few p) ((i : Nat) : Int)).getD k default).s2)]]) (v := .int .i64 (makesP (few p) ((writesP (few p) ((i : Nat) : Int)).getD k default))) Try.call128 (ev2 rfl rfl) (fun w hs => makes_c (few p) ((writesP (few p) ((i : Nat) : Int)).getD k default) w)) rfl rfl rfl rfl (b' := decide (((writesP (few p) ((i : Nat) : Int)).getD k default) ∈ ys)) rfl (decide_eq_false (by rw [(by assumption : ys = _)]; exact w_new hsm ho hi (by omega))) ?_
      refine x_gy (y_move h6_8) rfl rfl rfl rfl (b' := decide (((writesP (few p) ((i : Nat) : Int)).getD k default) ∈ ys)) rfl (decide_eq_false (by rw [(by assumption : ys = _)]; exact w_new hsm ho hi (by omega))) ?_
      refine x_gy (y_neq (a := makesP (few p) ((writesP (few p) ((i : Nat) : Int)).getD k default)) (b := ((i : Nat) : Int)) rfl rfl rfl) rfl rfl rfl rfl (b' := decide (((writesP (few p) ((i : Nat) : Int)).getD k default) ∈ ys)) rfl (decide_eq_false (by rw [(by assumption : ys = _)]; exact w_new hsm ho hi (by omega))) ?_
      refine x_y (v := .bool (decide ((makesP (few p) ((writesP (few p) ((i : Nat) : Int)).getD k default) : Int) ≠ ((i : Nat) : Int)))) (y_pickF (b := decide (((writesP (few p) ((i : Nat) : Int)).getD k default) ∈ ys)) (v := .bool (decide ((makesP (few p) ((writesP (few p) ((i : Nat) : Int)).getD k default) : Int) ≠ ((i : Nat) : Int)))) rfl (decide_eq_false (by rw [(by assumption : ys = _)]; exact w_new hsm ho hi (by omega))) rfl) rfl ?_
      refine x_nil ?_
      refine thenS_n ?_
      refine wpS_cond_F (t := decide ((makesP (few p) ((writesP (few p) ((i : Nat) : Int)).getD k default) : Int) ≠ ((i : Nat) : Int))) rfl (decide_eq_false (fun h => h (w_mk hsm hi (by omega)))) ?_
      refine wpS_skip ?_
      refine thenS_n ?_
      refine wpS_region ?_
      refine s_y (v := .slice a2 ys.length c2) (y_move h4_8) rfl ?_
      refine s_y (v := .slice a_5 ((writesP (few p) ((i : Nat) : Int)).length) c_6) (y_move h7_8) rfl ?_
      refine s_y (v := .int .i64 (((k : Nat) : Int))) (y_move h8_8) rfl ?_
      refine s_y (v := .pointer (some ⟨aB a_5, aO a_5 + k * 3, none⟩)) (y_idx (o := k * 3) rfl rfl Try.underlying58 Try.sizeOf144 (oslR .h) (fl_len spotV_len _) (by decide) (by omega) (by omega) (by omega)) rfl ?_
      refine s_y (v := .agg #[.int .i64 (((writesP (few p) ((i : Nat) : Int)).getD k default).s0), .int .i64 (((writesP (few p) ((i : Nat) : Int)).getD k default).s1), .int .i64 (((writesP (few p) ((i : Nat) : Int)).getD k default).s2)]) (y_loadN (vs := spotV ((writesP (few p) ((i : Nat) : Int)).getD k default)) rfl Try.isAgg144 Try.sizeOf144 (rdN (oslR .h) (fl_getN spotV_len (writesP (few p) ((i : Nat) : Int)) k (by first | omega | (simp only [List.length_set, List.length_take, List.length_drop]; done) | (simp only [List.length_set, List.length_take, List.length_drop]; omega))))) rfl ?_
      refine s_e rfl ?_
      refine e_bsliceL (e := 144) (m := [(0, .agg #[.int .i64 (((writesP (few p) ((i : Nat) : Int)).getD k default).s0), .int .i64 (((writesP (few p) ((i : Nat) : Int)).getD k default).s1), .int .i64 (((writesP (few p) ((i : Nat) : Int)).getD k default).s2)])]) (l := [.int .i64 (((writesP (few p) ((i : Nat) : Int)).getD k default).s0), .int .i64 (((writesP (few p) ((i : Nat) : Int)).getD k default).s1), .int .i64 (((writesP (few p) ((i : Nat) : Int)).getD k default).s2)]) (evc rfl evn) (fun w => by kernel_rfl) ?_
      intro b_10
      refine s_e rfl ?_
      refine e_appendL (enc := spotV) (xs := (ys : List Spot)) (ns := ([((writesP (few p) ((i : Nat) : Int)).getD k default)] : List Spot)) (zs := (ys ++ [((writesP (few p) ((i : Nat) : Int)).getD k default)])) (bytes := 24) spotV_len spotV_one Try.underlying58 (i := Try.t144) rfl rfl rfl rfl rfl (by decide) rfl rfl (by first | rfl | omega) (by first | rfl | omega) (.t (.t .h)) (fun w hs => celR .h w hs) (by first | rfl | simp) (by (try simp only [List.length_append, List.length_cons, List.length_nil] at *); omega) (by (try simp only [List.length_append, List.length_cons, List.length_nil] at *); omega) ?_
      intro a_11 c_12
      refine s_y (v := .slice a_11 ((ys ++ [((writesP (few p) ((i : Nat) : Int)).getD k default)]).length) c_12) (y_assign rfl) rfl ?_
      refine wpL_nil ?_
      refine blockS_n ?_
      refine thenS_n ?_
      refine wpS_region ?_
      refine s_y (v := .int .i64 (((k : Nat) : Int))) (y_move h8_8) rfl ?_
      refine s_y (v := .int .i64 ((((k + 1) : Nat) : Int))) (y_add (a := ((k : Nat) : Int)) (b := 1) (c := (((k + 1) : Nat) : Int)) rfl rfl (wI (by omega) (by omega) (by omega))) rfl ?_
      refine s_y (v := .int .i64 ((((k + 1) : Nat) : Int))) (y_assign rfl) rfl ?_
      refine wpL_nil ?_
      refine thenS_n ?_
      exact ⟨_, by omega, ⟨(k + 1), (ys ++ [((writesP (few p) ((i : Nat) : Int)).getD k default)]), a_11, c_12, rfl, by omega, (by rw [List.length_append]; show _ + 1 ≤ _; omega), (by rw [(by assumption : ys = _), List.append_assoc, tkg_next (by omega)]), rfl, h1_8, h3_8, rfl, h5_8, h6_8, h7_8, rfl, .p (.t (.t .h)) (.p .h (.p (.t .h) (.p (.t .h) .nil)))⟩⟩
    · -- decide (k < ((writesP (few p) ((i : Nat) : Int)).length)) false
      have p9 := of_decide_eq_false b9
      refine wpS_exit ?_
      refine thenS_x ?_
      refine thenS_x ?_
      refine blockS_h ?_
      refine thenS_n ?_
      refine wpS_seq ?_
      refine wpS_region ?_
      refine s_y (v := .agg #[.int .i64 ((few p).n0), .int .i64 ((few p).n1), .int .i64 ((few p).n2), .int .i64 ((few p).n3)]) (y_loadN (vs := [.int .i64 ((few p).n0), .int .i64 ((few p).n1), .int .i64 ((few p).n2), .int .i64 ((few p).n3)]) h1_8 Try.isAgg53 Try.sizeOf53 (ownN (.t (.t (.t .h))) rfl)) rfl ?_
      refine s_y (v := .int .i64 (((i : Nat) : Int))) (y_move h6_8) rfl ?_
      refine s_e rfl ?_
      refine e_call (f := 124) (args := #[.agg #[.int .i64 ((few p).n0), .int .i64 ((few p).n1), .int .i64 ((few p).n2), .int .i64 ((few p).n3)], .int .i64 (((i : Nat) : Int))]) (X := Option Addr × Nat) (A := []) (M := [osl a_5 c_6 ((writesP (few p) ((i : Nat) : Int)).length) 3 144 ((writesP (few p) ((i : Nat) : Int)).flatMap spotV), osl a2 c2 ys.length 3 144 (ys.flatMap spotV), osl (some ⟨b_2, 0, none⟩) (cnt (few p)) (cnt (few p)) 1 4 ((doneTo (cnt (few p)) i).flatMap boolV), cel b_1 53 [.int .i64 ((few p).n0), .int .i64 ((few p).n1), .int .i64 ((few p).n2), .int .i64 ((few p).n3)]]) (V := slV (readsP (few p) ((i : Nat) : Int))) (A' := fun x => [slR spotV 3 144 (readsP (few p) ((i : Nat) : Int)) x]) (C := fun _ => True) Try.call124 (ev2 rfl rfl) (.p .h (.p .h (.p .h (.p .h .nil)))) (fun w hs => reads_c (few p) ((i : Nat) : Int) w) ?_
      rintro ⟨a_13, c_14⟩ -
      refine s_y (v := .slice a_13 ((readsP (few p) ((i : Nat) : Int)).length) c_14) (y_assign rfl) rfl ?_
      refine wpL_nil ?_
      refine thenS_n ?_
      refine wpS_seq ?_
      refine wpS_seq ?_
      refine wpS_region ?_
      refine s_y (v := .int .i64 0) (y_assign rfl) rfl ?_
      refine wpL_nil ?_
      refine thenS_n ?_
      refine wpS_block ?_
      refine wpS_loop (fun mez ds σ L => ∃ k2 : Nat, mez = (readsP (few p) ((i : Nat) : Int)).length - k2 ∧ (k2 ≤ (readsP (few p) ((i : Nat) : Int)).length) ∧ ds = [] ∧ σ 1 = .pointer (some ⟨b_1, 0, none⟩) ∧ σ 3 = .int .i64 ((((cnt (few p)) : Nat) : Int)) ∧ σ 4 = .slice a2 ys.length c2 ∧ σ 5 = .slice (some ⟨b_2, 0, none⟩) (cnt (few p)) (cnt (few p)) ∧ σ 6 = .int .i64 (((i : Nat) : Int)) ∧ σ 9 = .slice a_13 ((readsP (few p) ((i : Nat) : Int)).length) c_14 ∧ σ 10 = .int .i64 (((k2 : Nat) : Int)) ∧ Ent L [osl a_13 c_14 ((readsP (few p) ((i : Nat) : Int)).length) 3 144 ((readsP (few p) ((i : Nat) : Int)).flatMap spotV), osl a_5 c_6 ((writesP (few p) ((i : Nat) : Int)).length) 3 144 ((writesP (few p) ((i : Nat) : Int)).flatMap spotV), osl a2 c2 ys.length 3 144 (ys.flatMap spotV), osl (some ⟨b_2, 0, none⟩) (cnt (few p)) (cnt (few p)) 1 4 ((doneTo (cnt (few p)) i).flatMap boolV), cel b_1 53 [.int .i64 ((few p).n0), .int .i64 ((few p).n1), .int .i64 ((few p).n2), .int .i64 ((few p).n3)]]) (m0 := (readsP (few p) ((i : Nat) : Int)).length - 0) ⟨0, rfl, by omega, rfl, h1_8, h3_8, h4_8, h5_8, h6_8, rfl, rfl, .p .h (.p .h (.p .h (.p .h (.p .h .nil))))⟩ ?_
      rintro mez ds σ L ⟨k2, hm_16, hf0_16, rfl, h1_16, h3_16, h4_16, h5_16, h6_16, h9_16, h10_16, hE_16⟩
      refine wpS_ent hE_16 ?_; clear hE_16
      refine wpS_seq ?_
      refine wpS_seq ?_
      refine wpS_region ?_
      refine s_y (v := .int .i64 (((k2 : Nat) : Int))) (y_move h10_16) rfl ?_
      refine s_y (v := .slice a_13 ((readsP (few p) ((i : Nat) : Int)).length) c_14) (y_move h9_16) rfl ?_
      refine s_y (v := .int .i64 ((((readsP (few p) ((i : Nat) : Int)).length : Nat) : Int))) (y_len (ty' := 0) (at_ := #[]) rfl Try.underlying58) rfl ?_
      refine s_y (v := .bool (decide (k2 < ((readsP (few p) ((i : Nat) : Int)).length)))) (y_lss (a := ((k2 : Nat) : Int)) (b := (((readsP (few p) ((i : Nat) : Int)).length : Nat) : Int)) (c := decide (k2 < ((readsP (few p) ((i : Nat) : Int)).length))) rfl rfl (decide_eq_decide.2 (by omega))) rfl ?_
      refine wpL_nil ?_
      refine thenS_n ?_
      refine wpS_cond (t := decide (k2 < ((readsP (few p) ((i : Nat) : Int)).length))) rfl (fun b17 => ?_) (fun b17 => ?_)
      · -- decide (k2 < ((readsP (few p) ((i : Nat) : Int)).length)) true
        have p17 := of_decide_eq_true b17
        have hrd := all_read ho hi (k := k2) (by omega)
        refine wpS_skip ?_
        refine thenS_n ?_
        refine wpS_seq ?_
        refine wpS_block ?_
        refine wpS_seq ?_
        refine wpS_lex (by kernel_rfl) (by kernel_rfl) ?_
        refine x_y (v := .agg #[.int .i64 ((few p).n0), .int .i64 ((few p).n1), .int .i64 ((few p).n2), .int .i64 ((few p).n3)]) (y_loadN (vs := [.int .i64 ((few p).n0), .int .i64 ((few p).n1), .int .i64 ((few p).n2), .int .i64 ((few p).n3)]) h1_16 Try.isAgg53 Try.sizeOf53 (ownN (.t (.t (.t (.t .h)))) rfl)) rfl ?_
        refine x_y (v := .slice a_13 ((readsP (few p) ((i : Nat) : Int)).length) c_14) (y_move h9_16) rfl ?_
        refine x_y (v := .int .i64 (((k2 : Nat) : Int))) (y_move h10_16) rfl ?_
        refine x_y (v := .pointer (some ⟨aB a_13, aO a_13 + k2 * 3, none⟩)) (y_idx (o := k2 * 3) rfl rfl Try.underlying58 Try.sizeOf144 (oslR .h) (fl_len spotV_len _) (by decide) (by omega) (by omega) (by omega)) rfl ?_
        refine x_y (v := .agg #[.int .i64 (((readsP (few p) ((i : Nat) : Int)).getD k2 default).s0), .int .i64 (((readsP (few p) ((i : Nat) : Int)).getD k2 default).s1), .int .i64 (((readsP (few p) ((i : Nat) : Int)).getD k2 default).s2)]) (y_loadN (vs := spotV ((readsP (few p) ((i : Nat) : Int)).getD k2 default)) rfl Try.isAgg144 Try.sizeOf144 (rdN (oslR .h) (fl_getN spotV_len (readsP (few p) ((i : Nat) : Int)) k2 (by first | omega | (simp only [List.length_set, List.length_take, List.length_drop]; done) | (simp only [List.length_set, List.length_take, List.length_drop]; omega))))) rfl ?_
        refine x_y (v := .int .i64 (makesP (few p) ((readsP (few p) ((i : Nat) : Int)).getD k2 default))) (y_call (args := #[.agg #[.int .i64 ((few p).n0), .int .i64 ((few p).n1), .int .i64 ((few p).n2), .int .i64 ((few p).n3)], .agg #[.int .i64 (((readsP (few p) ((i : Nat) : Int)).getD k2 default).s0), .int .i64 (((readsP (few p) ((i : Nat) : Int)).getD k2 default).s1), .int .i64 (((readsP (few p) ((i : Nat) : Int)).getD k2 default).s2)]]) (v := .int .i64 (makesP (few p) ((readsP (few p) ((i : Nat) : Int)).getD k2 default))) Try.call128 (ev2 rfl rfl) (fun w hs => makes_c (few p) ((readsP (few p) ((i : Nat) : Int)).getD k2 default) w)) rfl ?_
        refine x_y (v := .int .i64 (makesP (few p) ((readsP (few p) ((i : Nat) : Int)).getD k2 default))) (y_assign rfl) rfl ?_
        refine x_nil ?_
        refine thenS_n ?_
        refine wpS_seq ?_
        refine wpS_region ?_
        refine s_y (v := .int .i64 (makesP (few p) ((readsP (few p) ((i : Nat) : Int)).getD k2 default))) (y_move rfl) rfl ?_
        refine s_y (v := .int .i64 (((i : Nat) : Int))) (y_move h6_16) rfl ?_
        refine s_y (v := .bool (decide ((((i : Nat) : Int) : Int) ≤ (makesP (few p) ((readsP (few p) ((i : Nat) : Int)).getD k2 default))))) (y_geq (a := makesP (few p) ((readsP (few p) ((i : Nat) : Int)).getD k2 default)) (b := ((i : Nat) : Int)) rfl rfl rfl) rfl ?_
        refine s_y (v := .bool (decide ((((i : Nat) : Int) : Int) ≤ (makesP (few p) ((readsP (few p) ((i : Nat) : Int)).getD k2 default))))) (y_move rfl) rfl ?_
        refine s_gy (y_move rfl) rfl rfl rfl rfl (b' := decide ((((i : Nat) : Int) : Int) ≤ (makesP (few p) ((readsP (few p) ((i : Nat) : Int)).getD k2 default)))) rfl (decide_eq_false (by omega)) ?_
        refine s_gy (y_lss (a := makesP (few p) ((readsP (few p) ((i : Nat) : Int)).getD k2 default)) (b := 0) rfl rfl rfl) rfl rfl rfl rfl (b' := decide ((((i : Nat) : Int) : Int) ≤ (makesP (few p) ((readsP (few p) ((i : Nat) : Int)).getD k2 default)))) rfl (decide_eq_false (by omega)) ?_
        refine s_gy (y_move rfl) rfl rfl rfl rfl (b' := decide ((((i : Nat) : Int) : Int) ≤ (makesP (few p) ((readsP (few p) ((i : Nat) : Int)).getD k2 default)))) rfl (decide_eq_false (by omega)) ?_
        rcases Bool.eq_false_or_eq_true (decide ((makesP (few p) ((readsP (few p) ((i : Nat) : Int)).getD k2 default) : Int) < 0)) with b18 | b18
        · -- decide ((makesP (few p) ((readsP (few p) ((i : Nat) : Int)).getD k2 default) : Int) < 0) True
          have p18 := of_decide_eq_true b18
          refine s_gy (y_move h9_16) rfl rfl rfl rfl (b' := decide ((makesP (few p) ((readsP (few p) ((i : Nat) : Int)).getD k2 default) : Int) < 0)) rfl b18 ?_
          refine s_gy (y_move h10_16) rfl rfl rfl rfl (b' := decide ((makesP (few p) ((readsP (few p) ((i : Nat) : Int)).getD k2 default) : Int) < 0)) rfl b18 ?_
          refine s_gy (y_idx (o := k2 * 3) rfl rfl Try.underlying58 Try.sizeOf144 (oslR .h) (fl_len spotV_len _) (by decide) (by omega) (by omega) (by omega)) rfl rfl rfl rfl (b' := decide ((makesP (few p) ((readsP (few p) ((i : Nat) : Int)).getD k2 default) : Int) < 0)) rfl b18 ?_
          refine s_gy (y_fieldAddr (o' := aO a_13 + k2 * 3) rfl Try.underlying144 rfl Try.sizeOf3 (by decide) rfl) rfl rfl rfl rfl (b' := decide ((makesP (few p) ((readsP (few p) ((i : Nat) : Int)).getD k2 default) : Int) < 0)) rfl b18 ?_
          refine s_gy (y_load1 (v := .int .i64 (((readsP (few p) ((i : Nat) : Int)).getD k2 default).s0)) rfl Try.isAgg3 (rd1 (k := k2 * 3) (oslR .h) (fl_get0 spotV_len (readsP (few p) ((i : Nat) : Int)) k2 (by first | omega | (simp only [List.length_set, List.length_take, List.length_drop]; done) | (simp only [List.length_set, List.length_take, List.length_drop]; omega)) rfl))) rfl rfl rfl rfl (b' := decide ((makesP (few p) ((readsP (few p) ((i : Nat) : Int)).getD k2 default) : Int) < 0)) rfl b18 ?_
          refine s_gy (y_neq (a := ((readsP (few p) ((i : Nat) : Int)).getD k2 default).s0) (b := 0) rfl rfl rfl) rfl rfl rfl rfl (b' := decide ((makesP (few p) ((readsP (few p) ((i : Nat) : Int)).getD k2 default) : Int) < 0)) rfl b18 ?_
          refine s_gy (y_pickT (b := decide ((makesP (few p) ((readsP (few p) ((i : Nat) : Int)).getD k2 default) : Int) < 0)) (v := .bool (decide ((((readsP (few p) ((i : Nat) : Int)).getD k2 default).s0 : Int) ≠ 0))) rfl b18 rfl) rfl rfl rfl rfl (b' := decide ((((i : Nat) : Int) : Int) ≤ (makesP (few p) ((readsP (few p) ((i : Nat) : Int)).getD k2 default)))) rfl (decide_eq_false (by omega)) ?_
          refine s_y (v := .bool (decide ((((readsP (few p) ((i : Nat) : Int)).getD k2 default).s0 : Int) ≠ 0))) (y_pickF (b := decide ((((i : Nat) : Int) : Int) ≤ (makesP (few p) ((readsP (few p) ((i : Nat) : Int)).getD k2 default)))) (v := .bool (decide ((((readsP (few p) ((i : Nat) : Int)).getD k2 default).s0 : Int) ≠ 0))) rfl (decide_eq_false (by omega)) rfl) rfl ?_
          refine wpL_nil ?_
          refine thenS_n ?_
          refine wpS_cond_F (t := decide ((((readsP (few p) ((i : Nat) : Int)).getD k2 default).s0 : Int) ≠ 0)) rfl (decide_eq_false (fun h => h (hrd.2 (by omega)))) ?_
          refine wpS_skip ?_
          refine blockS_n ?_
          refine thenS_n ?_
          refine wpS_region ?_
          refine s_y (v := .int .i64 (((k2 : Nat) : Int))) (y_move h10_16) rfl ?_
          refine s_y (v := .int .i64 ((((k2 + 1) : Nat) : Int))) (y_add (a := ((k2 : Nat) : Int)) (b := 1) (c := (((k2 + 1) : Nat) : Int)) rfl rfl (wI (by omega) (by omega) (by omega))) rfl ?_
          refine s_y (v := .int .i64 ((((k2 + 1) : Nat) : Int))) (y_assign rfl) rfl ?_
          refine wpL_nil ?_
          refine thenS_n ?_
          exact ⟨_, by omega, ⟨(k2 + 1), rfl, by omega, rfl, h1_16, h3_16, h4_16, h5_16, h6_16, h9_16, rfl, .p .h (.p .h (.p .h (.p .h (.p .h .nil))))⟩⟩
        · -- decide ((makesP (few p) ((readsP (few p) ((i : Nat) : Int)).getD k2 default) : Int) < 0) False
          have p18 := of_decide_eq_false b18
          refine s_no rfl rfl rfl rfl (b' := decide ((makesP (few p) ((readsP (few p) ((i : Nat) : Int)).getD k2 default) : Int) < 0)) rfl b18 ?_
          refine s_no rfl rfl rfl rfl (b' := decide ((makesP (few p) ((readsP (few p) ((i : Nat) : Int)).getD k2 default) : Int) < 0)) rfl b18 ?_
          refine s_no rfl rfl rfl rfl (b' := decide ((makesP (few p) ((readsP (few p) ((i : Nat) : Int)).getD k2 default) : Int) < 0)) rfl b18 ?_
          refine s_no rfl rfl rfl rfl (b' := decide ((makesP (few p) ((readsP (few p) ((i : Nat) : Int)).getD k2 default) : Int) < 0)) rfl b18 ?_
          refine s_no rfl rfl rfl rfl (b' := decide ((makesP (few p) ((readsP (few p) ((i : Nat) : Int)).getD k2 default) : Int) < 0)) rfl b18 ?_
          refine s_no rfl rfl rfl rfl (b' := decide ((makesP (few p) ((readsP (few p) ((i : Nat) : Int)).getD k2 default) : Int) < 0)) rfl b18 ?_
          refine s_gy (y_pickF (b := decide ((makesP (few p) ((readsP (few p) ((i : Nat) : Int)).getD k2 default) : Int) < 0)) (v := .bool false) rfl b18 rfl) rfl rfl rfl rfl (b' := decide ((((i : Nat) : Int) : Int) ≤ (makesP (few p) ((readsP (few p) ((i : Nat) : Int)).getD k2 default)))) rfl (decide_eq_false (by omega)) ?_
          refine s_y (v := .bool false) (y_pickF (b := decide ((((i : Nat) : Int) : Int) ≤ (makesP (few p) ((readsP (few p) ((i : Nat) : Int)).getD k2 default)))) (v := .bool false) rfl (decide_eq_false (by omega)) rfl) rfl ?_
          refine wpL_nil ?_
          refine thenS_n ?_
          refine wpS_cond_f rfl ?_
          refine wpS_skip ?_
          refine blockS_n ?_
          refine thenS_n ?_
          refine wpS_region ?_
          refine s_y (v := .int .i64 (((k2 : Nat) : Int))) (y_move h10_16) rfl ?_
          refine s_y (v := .int .i64 ((((k2 + 1) : Nat) : Int))) (y_add (a := ((k2 : Nat) : Int)) (b := 1) (c := (((k2 + 1) : Nat) : Int)) rfl rfl (wI (by omega) (by omega) (by omega))) rfl ?_
          refine s_y (v := .int .i64 ((((k2 + 1) : Nat) : Int))) (y_assign rfl) rfl ?_
          refine wpL_nil ?_
          refine thenS_n ?_
          exact ⟨_, by omega, ⟨(k2 + 1), rfl, by omega, rfl, h1_16, h3_16, h4_16, h5_16, h6_16, h9_16, rfl, .p .h (.p .h (.p .h (.p .h (.p .h .nil))))⟩⟩
      · -- decide (k2 < ((readsP (few p) ((i : Nat) : Int)).length)) false
        have p17 := of_decide_eq_false b17
        refine wpS_exit ?_
        refine thenS_x ?_
        refine thenS_x ?_
        refine blockS_h ?_
        refine thenS_n ?_
        refine wpS_seq ?_
        refine wpS_seq ?_
        refine wpS_region ?_
        refine s_y (v := .agg #[.int .i64 ((few p).n0), .int .i64 ((few p).n1), .int .i64 ((few p).n2), .int .i64 ((few p).n3)]) (y_loadN (vs := [.int .i64 ((few p).n0), .int .i64 ((few p).n1), .int .i64 ((few p).n2), .int .i64 ((few p).n3)]) h1_16 Try.isAgg53 Try.sizeOf53 (ownN (.t (.t (.t (.t .h)))) rfl)) rfl ?_
        refine s_y (v := .slice (some ⟨b_2, 0, none⟩) (cnt (few p)) (cnt (few p))) (y_move h5_16) rfl ?_
        refine s_y (v := .int .i64 (((i : Nat) : Int))) (y_move h6_16) rfl ?_
        refine s_y (v := .bool (readyP (few p) (doneTo (cnt (few p)) i) ((i : Nat) : Int))) (y_call (args := #[.agg #[.int .i64 ((few p).n0), .int .i64 ((few p).n1), .int .i64 ((few p).n2), .int .i64 ((few p).n3)], .slice (some ⟨b_2, 0, none⟩) (cnt (few p)) (cnt (few p)), .int .i64 (((i : Nat) : Int))]) (v := .bool (readyP (few p) (doneTo (cnt (few p)) i) ((i : Nat) : Int))) Try.call130 (ev3 rfl rfl rfl) (fun w hs => ready_c (few p) (some ⟨b_2, 0, none⟩) (cnt (few p)) (cnt (few p)) (doneTo (cnt (few p)) i) ((i : Nat) : Int) w (by first | exact rfl | exact doneTo_len _ _ | omega) (oslR (.t (.t (.t .h))) w hs) (by omega))) rfl ?_
        refine s_y (v := .bool (!(readyP (few p) (doneTo (cnt (few p)) i) ((i : Nat) : Int)))) (y_not (b := readyP (few p) (doneTo (cnt (few p)) i) ((i : Nat) : Int)) rfl) rfl ?_
        refine wpL_nil ?_
        refine thenS_n ?_
        refine wpS_cond_F (t := !(readyP (few p) (doneTo (cnt (few p)) i) ((i : Nat) : Int))) rfl (by rw [all_ready hsm ho hi]; rfl) ?_
        refine wpS_skip ?_
        refine thenS_n ?_
        refine wpS_region ?_
        refine s_y (v := .slice (some ⟨b_2, 0, none⟩) (cnt (few p)) (cnt (few p))) (y_move h5_16) rfl ?_
        refine s_y (v := .int .i64 (((i : Nat) : Int))) (y_move h6_16) rfl ?_
        refine s_y (v := .pointer (some ⟨aB (some ⟨b_2, 0, none⟩), aO (some ⟨b_2, 0, none⟩) + i * 1, none⟩)) (y_idx (o := i * 1) rfl rfl Try.underlying50 Try.sizeOf4 (oslR (.t (.t (.t .h)))) ((fl_len boolV_len _).trans (by first | omega | (simp only [List.length_set, List.length_take, List.length_drop]; done) | (simp only [List.length_set, List.length_take, List.length_drop]; omega))) (by decide) (by omega) (by omega) (by omega)) rfl ?_
        refine s_e0 ?_
        refine e_storeL' (enc := boolV) (xs := (doneTo (cnt (few p)) i)) (y := true) (zs := (doneTo (cnt (few p)) (i + 1))) boolV_len boolV_one (by decide) rfl rfl rfl Try.sizeOf4 (.t (.t (.t .h))) (by rw [doneTo_len]; omega) (doneTo_set (by omega)) ?_
        refine wpL_nil ?_
        refine blockS_n ?_
        refine thenS_n ?_
        refine wpS_region ?_
        refine s_y (v := .int .i64 (((i : Nat) : Int))) (y_move h6_16) rfl ?_
        refine s_y (v := .int .i64 ((((i + 1) : Nat) : Int))) (y_add (a := ((i : Nat) : Int)) (b := 1) (c := (((i + 1) : Nat) : Int)) rfl rfl (wI (by omega) (by omega) (by omega))) rfl ?_
        refine s_y (v := .int .i64 ((((i + 1) : Nat) : Int))) (y_assign rfl) rfl ?_
        refine wpL_nil ?_
        refine thenS_n ?_
        exact ⟨_, by omega, ⟨(i + 1), ys, a2, c2, rfl, by omega, by omega, (by rw [(by assumption : ys = _)]; exact w_next hi (by omega)), rfl, h1_16, h3_16, h4_16, h5_16, rfl, .p (.t (.t (.t .h))) (.p .h (.p (.t (.t .h)) .nil))⟩⟩
  · -- decide (i < (cnt (few p))) false
    have p4 := of_decide_eq_false b4
    refine wpS_exit ?_
    refine thenS_x ?_
    refine thenS_x ?_
    refine blockS_h ?_
    refine thenS_n ?_
    refine wpS_seq ?_
    refine wpS_region ?_
    refine s_y (v := .agg #[.int .i64 ((few p).n0), .int .i64 ((few p).n1), .int .i64 ((few p).n2), .int .i64 ((few p).n3)]) (y_loadN (vs := [.int .i64 ((few p).n0), .int .i64 ((few p).n1), .int .i64 ((few p).n2), .int .i64 ((few p).n3)]) h1_3 Try.isAgg53 Try.sizeOf53 (ownN (.t (.t .h)) rfl)) rfl ?_
    refine s_e rfl ?_
    refine e_call (f := 66) (args := #[.agg #[.int .i64 ((few p).n0), .int .i64 ((few p).n1), .int .i64 ((few p).n2), .int .i64 ((few p).n3)]]) (X := Option Addr × Nat) (A := []) (M := [osl a1 c1 xs.length 3 144 (xs.flatMap spotV), osl (some ⟨b_2, 0, none⟩) (cnt (few p)) (cnt (few p)) 1 4 ((doneTo (cnt (few p)) i).flatMap boolV), cel b_1 53 [.int .i64 ((few p).n0), .int .i64 ((few p).n1), .int .i64 ((few p).n2), .int .i64 ((few p).n3)]]) (V := slV (lastS (few p))) (A' := fun x => [slR spotV 3 144 (lastS (few p)) x]) (C := fun _ => True) Try.call66 (ev1 rfl) (.p .h (.p .h (.p .h .nil))) (fun w hs => last_c (few p) w) ?_
    rintro ⟨a_19, c_20⟩ -
    refine s_y (v := .slice a_19 ((lastS (few p)).length) c_20) (y_assign rfl) rfl ?_
    refine wpL_nil ?_
    refine thenS_n ?_
    refine wpS_seq ?_
    refine wpS_seq ?_
    refine wpS_region ?_
    refine s_y (v := .int .i64 0) (y_assign rfl) rfl ?_
    refine wpL_nil ?_
    refine thenS_n ?_
    refine wpS_block ?_
    refine wpS_loop (fun mez ds σ L => ∃ k3 : Nat, mez = (lastS (few p)).length - k3 ∧ (k3 ≤ (lastS (few p)).length) ∧ ds = [] ∧ σ 4 = .slice a1 xs.length c1 ∧ σ 12 = .slice a_19 ((lastS (few p)).length) c_20 ∧ σ 13 = .int .i64 (((k3 : Nat) : Int)) ∧ Ent L [osl a_19 c_20 ((lastS (few p)).length) 3 144 ((lastS (few p)).flatMap spotV), osl a1 c1 xs.length 3 144 (xs.flatMap spotV), osl (some ⟨b_2, 0, none⟩) (cnt (few p)) (cnt (few p)) 1 4 ((doneTo (cnt (few p)) i).flatMap boolV), cel b_1 53 [.int .i64 ((few p).n0), .int .i64 ((few p).n1), .int .i64 ((few p).n2), .int .i64 ((few p).n3)]]) (m0 := (lastS (few p)).length - 0) ⟨0, rfl, by omega, rfl, h4_3, rfl, rfl, .p .h (.p .h (.p .h (.p .h .nil)))⟩ ?_
    rintro mez ds σ L ⟨k3, hm_21, hf0_21, rfl, h4_21, h12_21, h13_21, hE_21⟩
    refine wpS_ent hE_21 ?_; clear hE_21
    refine wpS_seq ?_
    refine wpS_seq ?_
    refine wpS_region ?_
    refine s_y (v := .int .i64 (((k3 : Nat) : Int))) (y_move h13_21) rfl ?_
    refine s_y (v := .slice a_19 ((lastS (few p)).length) c_20) (y_move h12_21) rfl ?_
    refine s_y (v := .int .i64 ((((lastS (few p)).length : Nat) : Int))) (y_len (ty' := 0) (at_ := #[]) rfl Try.underlying58) rfl ?_
    refine s_y (v := .bool (decide (k3 < ((lastS (few p)).length)))) (y_lss (a := ((k3 : Nat) : Int)) (b := (((lastS (few p)).length : Nat) : Int)) (c := decide (k3 < ((lastS (few p)).length))) rfl rfl (decide_eq_decide.2 (by omega))) rfl ?_
    refine wpL_nil ?_
    refine thenS_n ?_
    refine wpS_cond (t := decide (k3 < ((lastS (few p)).length))) rfl (fun b22 => ?_) (fun b22 => ?_)
    · -- decide (k3 < ((lastS (few p)).length)) true
      have p22 := of_decide_eq_true b22
      refine wpS_skip ?_
      refine thenS_n ?_
      refine wpS_seq ?_
      refine wpS_block ?_
      refine wpS_seq ?_
      refine wpS_region ?_
      refine s_y (v := .slice a1 xs.length c1) (y_move h4_21) rfl ?_
      refine s_y (v := .slice a_19 ((lastS (few p)).length) c_20) (y_move h12_21) rfl ?_
      refine s_y (v := .int .i64 (((k3 : Nat) : Int))) (y_move h13_21) rfl ?_
      refine s_y (v := .pointer (some ⟨aB a_19, aO a_19 + k3 * 3, none⟩)) (y_idx (o := k3 * 3) rfl rfl Try.underlying58 Try.sizeOf144 (oslR .h) (fl_len spotV_len _) (by decide) (by omega) (by omega) (by omega)) rfl ?_
      refine s_y (v := .agg #[.int .i64 (((lastS (few p)).getD k3 default).s0), .int .i64 (((lastS (few p)).getD k3 default).s1), .int .i64 (((lastS (few p)).getD k3 default).s2)]) (y_loadN (vs := spotV ((lastS (few p)).getD k3 default)) rfl Try.isAgg144 Try.sizeOf144 (rdN (oslR .h) (fl_getN spotV_len (lastS (few p)) k3 (by first | omega | (simp only [List.length_set, List.length_take, List.length_drop]; done) | (simp only [List.length_set, List.length_take, List.length_drop]; omega))))) rfl ?_
      refine s_y (v := .bool (decide (((lastS (few p)).getD k3 default) ∈ xs))) (y_call (args := #[.slice a1 xs.length c1, .agg #[.int .i64 (((lastS (few p)).getD k3 default).s0), .int .i64 (((lastS (few p)).getD k3 default).s1), .int .i64 (((lastS (few p)).getD k3 default).s2)]]) (v := .bool (decide (((lastS (few p)).getD k3 default) ∈ xs))) Try.call133 (ev2 rfl rfl) (fun w hs => inS_c a1 xs.length c1 xs ((lastS (few p)).getD k3 default) w rfl (oslR (.t .h) w hs) (by omega))) rfl ?_
      refine s_y (v := .bool (!(decide (((lastS (few p)).getD k3 default) ∈ xs)))) (y_not (b := decide (((lastS (few p)).getD k3 default) ∈ xs)) rfl) rfl ?_
      refine wpL_nil ?_
      refine thenS_n ?_
      refine wpS_cond_F (t := !(decide (((lastS (few p)).getD k3 default) ∈ xs))) rfl (by rw [(decide_eq_true (by rw [(by assumption : xs = _), show i = cnt (few p) by omega]; exact all_last hsm ho (by omega)))]; rfl) ?_
      refine wpS_skip ?_
      refine blockS_n ?_
      refine thenS_n ?_
      refine wpS_region ?_
      refine s_y (v := .int .i64 (((k3 : Nat) : Int))) (y_move h13_21) rfl ?_
      refine s_y (v := .int .i64 ((((k3 + 1) : Nat) : Int))) (y_add (a := ((k3 : Nat) : Int)) (b := 1) (c := (((k3 + 1) : Nat) : Int)) rfl rfl (wI (by omega) (by omega) (by omega))) rfl ?_
      refine s_y (v := .int .i64 ((((k3 + 1) : Nat) : Int))) (y_assign rfl) rfl ?_
      refine wpL_nil ?_
      refine thenS_n ?_
      exact ⟨_, by omega, ⟨(k3 + 1), rfl, by omega, rfl, h4_21, h12_21, rfl, .p .h (.p .h (.p .h (.p .h .nil)))⟩⟩
    · -- decide (k3 < ((lastS (few p)).length)) false
      have p22 := of_decide_eq_false b22
      refine wpS_exit ?_
      refine thenS_x ?_
      refine thenS_x ?_
      refine blockS_h ?_
      refine thenS_n ?_
      refine wpS_seq ?_
      refine wpS_region ?_
      refine s_y (v := .bool true) (y_assign rfl) rfl ?_
      refine wpL_nil ?_
      refine thenS_n ?_
      refine wpS_ret ?_
      refine fin1 (v := .bool true) (.inr rfl) (.nil) Try.results36 rfl ?_
      exact fun w' hs => ⟨rfl, hs⟩

end Go.Proofs.Ytldkjjnjdjfipaa
