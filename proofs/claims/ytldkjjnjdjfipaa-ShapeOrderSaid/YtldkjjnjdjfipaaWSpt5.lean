/- Which task makes a spot, by the reference; when a task is ready; walked. -/
import Derived.Test.YtldkjjnjdjfipaaWSpt2
import Derived.Test.YtldkjjnjdjfipaaWSpt3
import Derived.Test.YtldkjjnjdjfipaaWSpt4
import Derived.Test.YtldkjjnjdjfipaaP17d
namespace Go.Proofs.Ytldkjjnjdjfipaa
open Go Go.RowKit
set_option linter.unusedVariables false
set_option linter.unusedSimpArgs false
set_option maxRecDepth 10000
set_option maxHeartbeats 1000000

theorem ref_atN {p : Par} (h : Small p) {i : Nat} (h1 : i < (refT p).length) : (tkAt p ((i : Nat) : Int)).2 = true ∧ (refT p).getD i default = tkN p i := by
  have h2 := ref_at h (i := ((i : Nat) : Int)) (by omega) (by omega)
  rw [Int.toNat_natCast] at h2
  exact h2

theorem rmakes_c (p : Par) (s : Spot) (hsm : Small p) (w : World) : Pure Try.prog 129 #[.agg #[.int .i64 (p.n0), .int .i64 (p.n1), .int .i64 (p.n2), .int .i64 (p.n3)], .agg #[.int .i64 (s.s0), .int .i64 (s.s1), .int .i64 (s.s2)]] w (.int .i64 (makesP p s)) := by
  refine calls_S (n := 36) (σ0 := (upd (upd fr0 0 (.agg #[.int .i64 (p.n0), .int .i64 (p.n1), .int .i64 (p.n2), .int .i64 (p.n3)])) 1 (.agg #[.int .i64 (s.s0), .int .i64 (s.s1), .int .i64 (s.s2)]))) (D := []) (A := []) Try.func129 rfl Try.ntmps129 rfl (a2_fr _ _) (SH.start w) ?_
  have h88 := hsm.h8
  have hrl := hsm.rlen
  have hcl := hsm.len
  refine wpS_seq ?_
  refine wpS_region ?_
  refine s_e rfl ?_
  refine e_box (v := .agg #[.int .i64 (p.n0), .int .i64 (p.n1), .int .i64 (p.n2), .int .i64 (p.n3)]) (l := [.int .i64 (p.n0), .int .i64 (p.n1), .int .i64 (p.n2), .int .i64 (p.n3)]) rfl rfl ?_
  intro b_1
  refine s_e rfl ?_
  refine e_box (v := .agg #[.int .i64 (s.s0), .int .i64 (s.s1), .int .i64 (s.s2)]) (l := [.int .i64 (s.s0), .int .i64 (s.s1), .int .i64 (s.s2)]) rfl rfl ?_
  intro b_2
  refine s_y (v := .int .i64 0) (y_assign rfl) rfl ?_
  refine wpL_nil ?_
  refine thenS_n ?_
  refine wpS_seq ?_
  refine wpS_region ?_
  refine s_y (v := .agg #[.int .i64 (p.n0), .int .i64 (p.n1), .int .i64 (p.n2), .int .i64 (p.n3)]) (y_loadN (vs := [.int .i64 (p.n0), .int .i64 (p.n1), .int .i64 (p.n2), .int .i64 (p.n3)]) rfl Try.isAgg53 Try.sizeOf53 (ownN (.t .h) rfl)) rfl ?_
  refine s_e rfl ?_
  refine e_call (f := 97) (args := #[.agg #[.int .i64 (p.n0), .int .i64 (p.n1), .int .i64 (p.n2), .int .i64 (p.n3)]]) (X := Option Addr × Nat) (A := []) (M := [cel b_2 144 [.int .i64 (s.s0), .int .i64 (s.s1), .int .i64 (s.s2)], cel b_1 53 [.int .i64 (p.n0), .int .i64 (p.n1), .int .i64 (p.n2), .int .i64 (p.n3)]]) (V := slV (refT p)) (A' := fun x => [slR taskV 5 120 (refT p) x]) (C := fun _ => True) Try.call97 (ev1 rfl) (.p .h (.p .h .nil)) (fun w hs => rtasks_c p hsm.h8 w) ?_
  rintro ⟨a_3, c_4⟩ -
  refine s_y (v := .slice a_3 ((refT p).length) c_4) (y_assign rfl) rfl ?_
  refine wpL_nil ?_
  refine thenS_n ?_
  refine wpS_seq ?_
  refine wpS_seq ?_
  refine wpS_region ?_
  refine s_y (v := .int .i64 0) (y_assign rfl) rfl ?_
  refine wpL_nil ?_
  refine thenS_n ?_
  refine wpS_block ?_
  refine wpS_loop (fun mez ds σ L => ∃ i : Nat, mez = (refT p).length - i ∧ (i ≤ (refT p).length) ∧ (NoW p i s) ∧ ds = [] ∧ σ 2 = .pointer (some ⟨b_1, 0, none⟩) ∧ σ 3 = .pointer (some ⟨b_2, 0, none⟩) ∧ σ 5 = .slice a_3 ((refT p).length) c_4 ∧ σ 6 = .int .i64 (((i : Nat) : Int)) ∧ Ent L [osl a_3 c_4 ((refT p).length) 5 120 ((refT p).flatMap taskV), cel b_2 144 [.int .i64 (s.s0), .int .i64 (s.s1), .int .i64 (s.s2)], cel b_1 53 [.int .i64 (p.n0), .int .i64 (p.n1), .int .i64 (p.n2), .int .i64 (p.n3)]]) (m0 := (refT p).length - 0) ⟨0, rfl, by omega, (noW_0 p s), rfl, rfl, rfl, rfl, rfl, .p .h (.p .h (.p .h .nil))⟩ ?_
  rintro mez ds σ L ⟨i, hm_5, hf0_5, hf1_5, rfl, h2_5, h3_5, h5_5, h6_5, hE_5⟩
  refine wpS_ent hE_5 ?_; clear hE_5
  refine wpS_seq ?_
  refine wpS_seq ?_
  refine wpS_region ?_
  refine s_y (v := .int .i64 (((i : Nat) : Int))) (y_move h6_5) rfl ?_
  refine s_y (v := .slice a_3 ((refT p).length) c_4) (y_move h5_5) rfl ?_
  refine s_y (v := .int .i64 ((((refT p).length : Nat) : Int))) (y_len (ty' := 0) (at_ := #[]) rfl Try.underlying115) rfl ?_
  refine s_y (v := .bool (decide (i < ((refT p).length)))) (y_lss (a := ((i : Nat) : Int)) (b := (((refT p).length : Nat) : Int)) (c := decide (i < ((refT p).length))) rfl rfl (decide_eq_decide.2 (by omega))) rfl ?_
  refine wpL_nil ?_
  refine thenS_n ?_
  refine wpS_cond (t := decide (i < ((refT p).length))) rfl (fun b6 => ?_) (fun b6 => ?_)
  · -- decide (i < ((refT p).length)) true
    have p6 := of_decide_eq_true b6
    obtain ⟨hsome, hel⟩ := ref_atN hsm (i := i) (by omega)
    have hbd := tk_bd hsome
    rw [show (tkAt p ((i : Nat) : Int)).1 = (refT p).getD i default from hel.symm] at hbd
    have hn1 := tk_n1 hsome
    have hwl := wlen_bd (p := p) (by omega) ((refT p).getD i default)
    refine wpS_skip ?_
    refine thenS_n ?_
    refine wpS_seq ?_
    refine wpS_block ?_
    refine wpS_seq ?_
    refine wpS_anyL [osl a_3 c_4 ((refT p).length) 5 120 ((refT p).flatMap taskV), cel b_1 53 [.int .i64 (p.n0), .int .i64 (p.n1), .int .i64 (p.n2), .int .i64 (p.n3)]] [] (by kernel_rfl) ?_
    refine anyS_take (i := 0) rfl (by kernel_rfl) (by kernel_rfl) (by kernel_rfl) (by kernel_rfl) (Yq.of (v := .agg #[.int .i64 (p.n0), .int .i64 (p.n1), .int .i64 (p.n2), .int .i64 (p.n3)]) (y_loadN (vs := [.int .i64 (p.n0), .int .i64 (p.n1), .int .i64 (p.n2), .int .i64 (p.n3)]) h2_5 Try.isAgg53 Try.sizeOf53 (ownN (.t .h) rfl)) rfl) (.p .h (.p (.t .h) .nil)) ?_
    refine anyS_take (i := 1) rfl (by kernel_rfl) (by kernel_rfl) (by kernel_rfl) (by kernel_rfl) (Yq.of (v := .slice a_3 ((refT p).length) c_4) (y_move h5_5) rfl) (.p .h (.p (.t .h) .nil)) ?_
    refine anyS_take (i := 2) rfl (by kernel_rfl) (by kernel_rfl) (by kernel_rfl) (by kernel_rfl) (Yq.of (v := .int .i64 (((i : Nat) : Int))) (y_move h6_5) rfl) (.p .h (.p (.t .h) .nil)) ?_
    refine anyS_take (i := 3) rfl (by kernel_rfl) (by kernel_rfl) (by kernel_rfl) (by kernel_rfl) (Yq.of (v := .pointer (some ⟨aB a_3, aO a_3 + i * 5, none⟩)) (y_idx (o := i * 5) rfl rfl Try.underlying115 Try.sizeOf120 (oslR .h) (fl_len taskV_len _) (by decide) (by omega) (by omega) (by omega)) rfl) (.p .h (.p (.t .h) .nil)) ?_
    refine anyS_take (i := 4) rfl (by kernel_rfl) (by kernel_rfl) (by kernel_rfl) (by kernel_rfl) (Yq.of (v := .agg #[.int .i64 (((refT p).getD i default).t0), .int .i64 (((refT p).getD i default).t1), .int .i64 (((refT p).getD i default).t2), .int .i64 (((refT p).getD i default).t3), .bool (((refT p).getD i default).t4)]) (y_loadN (vs := taskV ((refT p).getD i default)) rfl Try.isAgg120 Try.sizeOf120 (rdN (oslR .h) (fl_getN taskV_len (refT p) i (by first | omega | (simp only [List.length_set, List.length_take, List.length_drop]; done) | (simp only [List.length_set, List.length_take, List.length_drop]; omega))))) rfl) (.p .h (.p (.t .h) .nil)) ?_
    refine anyS_all (rs := [5]) (by kernel_rfl) (by simp) ?_
    intro i hi; obtain rfl := List.mem_singleton.1 hi; clear hi
    refine opS_0 rfl rfl ?_
    refine e_call (f := 204) (args := #[.agg #[.int .i64 (p.n0), .int .i64 (p.n1), .int .i64 (p.n2), .int .i64 (p.n3)], .agg #[.int .i64 (((refT p).getD i default).t0), .int .i64 (((refT p).getD i default).t1), .int .i64 (((refT p).getD i default).t2), .int .i64 (((refT p).getD i default).t3), .bool (((refT p).getD i default).t4)]]) (X := Option Addr × Nat) (A := []) (M := [osl a_3 c_4 ((refT p).length) 5 120 ((refT p).flatMap taskV), cel b_2 144 [.int .i64 (s.s0), .int .i64 (s.s1), .int .i64 (s.s2)], cel b_1 53 [.int .i64 (p.n0), .int .i64 (p.n1), .int .i64 (p.n2), .int .i64 (p.n3)]]) (V := slV (writesT p.n1 ((refT p).getD i default))) (A' := fun x => [slR spotV 3 144 (writesT p.n1 ((refT p).getD i default)) x]) (C := fun _ => True) Try.call204 (ev2 rfl rfl) (.p .h (.p .h (.p .h .nil))) (fun w hs => rwr_c p ((refT p).getD i default) (by omega) (by omega) (by omega) (by omega) w) ?_
    rintro ⟨a_7, c_8⟩ -
    refine ⟨.inr (.p (.t .h) (.p (.t (.t .h)) .nil)), ?_⟩
    refine anyS_take (i := 6) rfl (by kernel_rfl) (by kernel_rfl) (by kernel_rfl) (by kernel_rfl) (Yq.of (v := .slice a_7 ((writesT p.n1 ((refT p).getD i default)).length) c_8) (y_assign rfl) rfl) (.p (.t .h) (.p (.t (.t .h)) .nil)) ?_
    refine anyS_done (by kernel_rfl) ?_
    refine thenS_n ?_
    refine wpS_seq ?_
    refine wpS_region ?_
    refine s_y (v := .int .i64 0) (y_assign rfl) rfl ?_
    refine wpL_nil ?_
    refine thenS_n ?_
    refine wpS_block ?_
    refine wpS_loop (fun mez ds σ L => ∃ j : Nat, mez = (writesT p.n1 ((refT p).getD i default)).length - j ∧ (j ≤ (writesT p.n1 ((refT p).getD i default)).length) ∧ (NoI (writesT p.n1 ((refT p).getD i default)) j s) ∧ ds = [] ∧ σ 2 = .pointer (some ⟨b_1, 0, none⟩) ∧ σ 3 = .pointer (some ⟨b_2, 0, none⟩) ∧ σ 5 = .slice a_3 ((refT p).length) c_4 ∧ σ 6 = .int .i64 (((i : Nat) : Int)) ∧ σ 7 = .slice a_7 ((writesT p.n1 ((refT p).getD i default)).length) c_8 ∧ σ 8 = .int .i64 (((j : Nat) : Int)) ∧ Ent L [osl a_7 c_8 ((writesT p.n1 ((refT p).getD i default)).length) 3 144 ((writesT p.n1 ((refT p).getD i default)).flatMap spotV), osl a_3 c_4 ((refT p).length) 5 120 ((refT p).flatMap taskV), cel b_2 144 [.int .i64 (s.s0), .int .i64 (s.s1), .int .i64 (s.s2)], cel b_1 53 [.int .i64 (p.n0), .int .i64 (p.n1), .int .i64 (p.n2), .int .i64 (p.n3)]]) (m0 := (writesT p.n1 ((refT p).getD i default)).length - 0) ⟨0, rfl, by omega, (noI_0 _ _), rfl, h2_5, h3_5, h5_5, h6_5, rfl, rfl, .p .h (.p .h (.p .h (.p .h .nil)))⟩ ?_
    rintro mez ds σ L ⟨j, hm_10, hf0_10, hf1_10, rfl, h2_10, h3_10, h5_10, h6_10, h7_10, h8_10, hE_10⟩
    refine wpS_ent hE_10 ?_; clear hE_10
    refine wpS_seq ?_
    refine wpS_seq ?_
    refine wpS_region ?_
    refine s_y (v := .int .i64 (((j : Nat) : Int))) (y_move h8_10) rfl ?_
    refine s_y (v := .slice a_7 ((writesT p.n1 ((refT p).getD i default)).length) c_8) (y_move h7_10) rfl ?_
    refine s_y (v := .int .i64 ((((writesT p.n1 ((refT p).getD i default)).length : Nat) : Int))) (y_len (ty' := 0) (at_ := #[]) rfl Try.underlying58) rfl ?_
    refine s_y (v := .bool (decide (j < ((writesT p.n1 ((refT p).getD i default)).length)))) (y_lss (a := ((j : Nat) : Int)) (b := (((writesT p.n1 ((refT p).getD i default)).length : Nat) : Int)) (c := decide (j < ((writesT p.n1 ((refT p).getD i default)).length))) rfl rfl (decide_eq_decide.2 (by omega))) rfl ?_
    refine wpL_nil ?_
    refine thenS_n ?_
    refine wpS_cond (t := decide (j < ((writesT p.n1 ((refT p).getD i default)).length))) rfl (fun b11 => ?_) (fun b11 => ?_)
    · -- decide (j < ((writesT p.n1 ((refT p).getD i default)).length)) true
      have p11 := of_decide_eq_true b11
      refine wpS_skip ?_
      refine thenS_n ?_
      refine wpS_seq ?_
      refine wpS_block ?_
      refine wpS_seq ?_
      refine wpS_lex (by kernel_rfl) (by kernel_rfl) ?_
      refine x_y (v := .slice a_7 ((writesT p.n1 ((refT p).getD i default)).length) c_8) (y_move h7_10) rfl ?_
      refine x_y (v := .int .i64 (((j : Nat) : Int))) (y_move h8_10) rfl ?_
      refine x_y (v := .pointer (some ⟨aB a_7, aO a_7 + j * 3, none⟩)) (y_idx (o := j * 3) rfl rfl Try.underlying58 Try.sizeOf144 (oslR .h) (fl_len spotV_len _) (by decide) (by omega) (by omega) (by omega)) rfl ?_
      refine x_y (v := .agg #[.int .i64 (((writesT p.n1 ((refT p).getD i default)).getD j default).s0), .int .i64 (((writesT p.n1 ((refT p).getD i default)).getD j default).s1), .int .i64 (((writesT p.n1 ((refT p).getD i default)).getD j default).s2)]) (y_loadN (vs := spotV ((writesT p.n1 ((refT p).getD i default)).getD j default)) rfl Try.isAgg144 Try.sizeOf144 (rdN (oslR .h) (fl_getN spotV_len (writesT p.n1 ((refT p).getD i default)) j (by first | omega | (simp only [List.length_set, List.length_take, List.length_drop]; done) | (simp only [List.length_set, List.length_take, List.length_drop]; omega))))) rfl ?_
      refine x_y (v := .agg #[.int .i64 (s.s0), .int .i64 (s.s1), .int .i64 (s.s2)]) (y_loadN (vs := [.int .i64 (s.s0), .int .i64 (s.s1), .int .i64 (s.s2)]) h3_10 Try.isAgg144 Try.sizeOf144 (ownN (.t (.t .h)) rfl)) rfl ?_
      refine x_y (v := .bool (decide (((writesT p.n1 ((refT p).getD i default)).getD j default) = s))) (y_eqlS (a := #[.int .i64 (((writesT p.n1 ((refT p).getD i default)).getD j default).s0), .int .i64 (((writesT p.n1 ((refT p).getD i default)).getD j default).s1), .int .i64 (((writesT p.n1 ((refT p).getD i default)).getD j default).s2)]) (b := #[.int .i64 (s.s0), .int .i64 (s.s1), .int .i64 (s.s2)]) (c := decide (((writesT p.n1 ((refT p).getD i default)).getD j default) = s)) Try.eqGuardType144 (fun w => equalS w ((writesT p.n1 ((refT p).getD i default)).getD j default) s) rfl rfl) rfl ?_
      refine x_nil ?_
      refine thenS_n ?_
      refine wpS_cond (t := decide (((writesT p.n1 ((refT p).getD i default)).getD j default) = s)) rfl (fun b12 => ?_) (fun b12 => ?_)
      · -- decide (((writesT p.n1 ((refT p).getD i default)).getD j default) = s) true
        have p12 := of_decide_eq_true b12
        refine wpS_seq ?_
        refine wpS_region ?_
        refine s_y (v := .int .i64 (((i : Nat) : Int))) (y_move h6_10) rfl ?_
        refine s_y (v := .int .i64 (((i : Nat) : Int))) (y_assign rfl) rfl ?_
        refine wpL_nil ?_
        refine thenS_n ?_
        refine wpS_ret ?_
        refine blockS_r ?_
        refine thenS_r ?_
        refine thenS_r ?_
        refine blockS_r ?_
        refine blockS_r ?_
        refine thenS_r ?_
        refine thenS_r ?_
        refine blockS_r ?_
        refine thenS_r ?_
        refine fin1 (v := .int .i64 (((i : Nat) : Int))) (.inr rfl) (.nil) Try.results129 rfl ?_
        exact fun w' hs => ⟨congrArg (fun z : Int => Ending.returned (.int .i64 z)) ((mk_hit hsm hel (j := j) (by omega) (by omega) (by assumption)).symm), hs⟩
      · -- decide (((writesT p.n1 ((refT p).getD i default)).getD j default) = s) false
        have p12 := of_decide_eq_false b12
        refine wpS_skip ?_
        refine blockS_n ?_
        refine thenS_n ?_
        refine wpS_region ?_
        refine s_y (v := .int .i64 (((j : Nat) : Int))) (y_move h8_10) rfl ?_
        refine s_y (v := .int .i64 ((((j + 1) : Nat) : Int))) (y_add (a := ((j : Nat) : Int)) (b := 1) (c := (((j + 1) : Nat) : Int)) rfl rfl (wI (by omega) (by omega) (by omega))) rfl ?_
        refine s_y (v := .int .i64 ((((j + 1) : Nat) : Int))) (y_assign rfl) rfl ?_
        refine wpL_nil ?_
        refine thenS_n ?_
        exact ⟨_, by omega, ⟨(j + 1), rfl, by omega, (noI_step (by omega) (by assumption) (by assumption)), rfl, h2_10, h3_10, h5_10, h6_10, h7_10, rfl, .p .h (.p .h (.p .h (.p .h .nil)))⟩⟩
    · -- decide (j < ((writesT p.n1 ((refT p).getD i default)).length)) false
      have p11 := of_decide_eq_false b11
      refine wpS_exit ?_
      refine thenS_x ?_
      refine thenS_x ?_
      refine blockS_h ?_
      refine blockS_n ?_
      refine thenS_n ?_
      refine wpS_region ?_
      refine s_y (v := .int .i64 (((i : Nat) : Int))) (y_move h6_10) rfl ?_
      refine s_y (v := .int .i64 ((((i + 1) : Nat) : Int))) (y_add (a := ((i : Nat) : Int)) (b := 1) (c := (((i + 1) : Nat) : Int)) rfl rfl (wI (by omega) (by omega) (by omega))) rfl ?_
      refine s_y (v := .int .i64 ((((i + 1) : Nat) : Int))) (y_assign rfl) rfl ?_
      refine wpL_nil ?_
      refine thenS_n ?_
      exact ⟨_, by omega, ⟨(i + 1), rfl, by omega, (noW_step (j := j) hel (by assumption) (by omega) (by assumption)), rfl, h2_10, h3_10, h5_10, rfl, .p (.t .h) (.p (.t .h) (.p (.t .h) .nil))⟩⟩
  · -- decide (i < ((refT p).length)) false
    have p6 := of_decide_eq_false b6
    refine wpS_exit ?_
    refine thenS_x ?_
    refine thenS_x ?_
    refine blockS_h ?_
    refine thenS_n ?_
    refine wpS_seq ?_
    refine wpS_region ?_
    refine s_y (v := .int .i64 (-1)) (y_assign rfl) rfl ?_
    refine wpL_nil ?_
    refine thenS_n ?_
    refine wpS_ret ?_
    refine fin1 (v := .int .i64 (-1)) (.inr rfl) (.nil) Try.results129 rfl ?_
    exact fun w' hs => ⟨congrArg (fun z : Int => Ending.returned (.int .i64 z)) ((mk_no hsm (i := i) (by omega) (by assumption)).symm), hs⟩

theorem inS_c (a : Option Addr) (n c : Nat) (x : List Spot) (s : Spot) (w : World) (hn : x.length = n) (hr : Rds w a (x.flatMap spotV)) (hb : n ≤ 1000000) : Pure Try.prog 133 #[.slice a n c, .agg #[.int .i64 (s.s0), .int .i64 (s.s1), .int .i64 (s.s2)]] w (.bool (decide (s ∈ x))) := by
  refine calls_S (n := 18) (σ0 := (upd (upd fr0 0 (.slice a n c)) 1 (.agg #[.int .i64 (s.s0), .int .i64 (s.s1), .int .i64 (s.s2)]))) (D := []) (A := []) Try.func133 rfl Try.ntmps133 rfl (a2_fr _ _) (SH.start w) ?_
  refine wpS_seq ?_
  refine wpS_region ?_
  refine s_e rfl ?_
  refine e_box (v := .agg #[.int .i64 (s.s0), .int .i64 (s.s1), .int .i64 (s.s2)]) (l := [.int .i64 (s.s0), .int .i64 (s.s1), .int .i64 (s.s2)]) rfl rfl ?_
  intro b_1
  refine s_y (v := .bool false) (y_assign rfl) rfl ?_
  refine wpL_nil ?_
  refine thenS_n ?_
  refine wpS_seq ?_
  refine wpS_seq ?_
  refine wpS_region ?_
  refine s_y (v := .int .i64 0) (y_assign rfl) rfl ?_
  refine wpL_nil ?_
  refine thenS_n ?_
  refine wpS_block ?_
  refine wpS_loop (fun mez ds σ L => ∃ i : Nat, mez = n - i ∧ (i ≤ n) ∧ (NoI x i s) ∧ ds = [] ∧ σ 0 = .slice a n c ∧ σ 3 = .pointer (some ⟨b_1, 0, none⟩) ∧ σ 5 = .int .i64 (((i : Nat) : Int)) ∧ Ent L [cel b_1 144 [.int .i64 (s.s0), .int .i64 (s.s1), .int .i64 (s.s2)]]) (m0 := n - 0) ⟨0, rfl, by omega, (noI_0 _ _), rfl, rfl, rfl, rfl, .p .h .nil⟩ ?_
  rintro mez ds σ L ⟨i, hm_2, hf0_2, hf1_2, rfl, h0_2, h3_2, h5_2, hE_2⟩
  refine wpS_ent hE_2 ?_; clear hE_2
  refine wpS_seq ?_
  refine wpS_seq ?_
  refine wpS_region ?_
  refine s_y (v := .int .i64 (((i : Nat) : Int))) (y_move h5_2) rfl ?_
  refine s_y (v := .slice a n c) (y_move h0_2) rfl ?_
  refine s_y (v := .int .i64 (((n : Nat) : Int))) (y_len (ty' := 0) (at_ := #[]) rfl Try.underlying58) rfl ?_
  refine s_y (v := .bool (decide (i < n))) (y_lss (a := ((i : Nat) : Int)) (b := ((n : Nat) : Int)) (c := decide (i < n)) rfl rfl (decide_eq_decide.2 (by omega))) rfl ?_
  refine wpL_nil ?_
  refine thenS_n ?_
  refine wpS_cond (t := decide (i < n)) rfl (fun b3 => ?_) (fun b3 => ?_)
  · -- decide (i < n) true
    have p3 := of_decide_eq_true b3
    refine wpS_skip ?_
    refine thenS_n ?_
    refine wpS_seq ?_
    refine wpS_block ?_
    refine wpS_seq ?_
    refine wpS_lex (by kernel_rfl) (by kernel_rfl) ?_
    refine x_y (v := .slice a n c) (y_move h0_2) rfl ?_
    refine x_y (v := .int .i64 (((i : Nat) : Int))) (y_move h5_2) rfl ?_
    refine x_y (v := .pointer (some ⟨aB a, aO a + i * 3, none⟩)) (y_idx (o := i * 3) rfl rfl Try.underlying58 Try.sizeOf144 (oldR hr) ((fl_len spotV_len _).trans (by first | omega | (simp only [List.length_set, List.length_take, List.length_drop]; done) | (simp only [List.length_set, List.length_take, List.length_drop]; omega))) (by decide) (by omega) (by omega) (by omega)) rfl ?_
    refine x_y (v := .agg #[.int .i64 ((x.getD i default).s0), .int .i64 ((x.getD i default).s1), .int .i64 ((x.getD i default).s2)]) (y_loadN (vs := spotV (x.getD i default)) rfl Try.isAgg144 Try.sizeOf144 (rdN (oldR hr) (fl_getN spotV_len x i (by first | omega | (simp only [List.length_set, List.length_take, List.length_drop]; done) | (simp only [List.length_set, List.length_take, List.length_drop]; omega))))) rfl ?_
    refine x_y (v := .agg #[.int .i64 (s.s0), .int .i64 (s.s1), .int .i64 (s.s2)]) (y_loadN (vs := [.int .i64 (s.s0), .int .i64 (s.s1), .int .i64 (s.s2)]) h3_2 Try.isAgg144 Try.sizeOf144 (ownN .h rfl)) rfl ?_
    refine x_y (v := .bool (decide ((x.getD i default) = s))) (y_eqlS (a := #[.int .i64 ((x.getD i default).s0), .int .i64 ((x.getD i default).s1), .int .i64 ((x.getD i default).s2)]) (b := #[.int .i64 (s.s0), .int .i64 (s.s1), .int .i64 (s.s2)]) (c := decide ((x.getD i default) = s)) Try.eqGuardType144 (fun w => equalS w (x.getD i default) s) rfl rfl) rfl ?_
    refine x_nil ?_
    refine thenS_n ?_
    refine wpS_cond (t := decide ((x.getD i default) = s)) rfl (fun b4 => ?_) (fun b4 => ?_)
    · -- decide ((x.getD i default) = s) true
      have p4 := of_decide_eq_true b4
      refine wpS_seq ?_
      refine wpS_region ?_
      refine s_y (v := .bool true) (y_assign rfl) rfl ?_
      refine wpL_nil ?_
      refine thenS_n ?_
      refine wpS_ret ?_
      refine blockS_r ?_
      refine thenS_r ?_
      refine thenS_r ?_
      refine blockS_r ?_
      refine thenS_r ?_
      refine fin1 (v := .bool true) (.inr rfl) (.nil) Try.results133 rfl ?_
      exact fun w' hs => ⟨congrArg (fun b : Bool => Ending.returned (.bool b)) ((decide_eq_true (by have hm := getD_mem (l := x) (j := i) (by omega); rw [show x.getD i default = s by assumption] at hm; exact hm)).symm), hs⟩
    · -- decide ((x.getD i default) = s) false
      have p4 := of_decide_eq_false b4
      refine wpS_skip ?_
      refine blockS_n ?_
      refine thenS_n ?_
      refine wpS_region ?_
      refine s_y (v := .int .i64 (((i : Nat) : Int))) (y_move h5_2) rfl ?_
      refine s_y (v := .int .i64 ((((i + 1) : Nat) : Int))) (y_add (a := ((i : Nat) : Int)) (b := 1) (c := (((i + 1) : Nat) : Int)) rfl rfl (wI (by omega) (by omega) (by omega))) rfl ?_
      refine s_y (v := .int .i64 ((((i + 1) : Nat) : Int))) (y_assign rfl) rfl ?_
      refine wpL_nil ?_
      refine thenS_n ?_
      exact ⟨_, by omega, ⟨(i + 1), rfl, by omega, (noI_step (by omega) (by assumption) (by assumption)), rfl, h0_2, h3_2, rfl, .p .h .nil⟩⟩
  · -- decide (i < n) false
    have p3 := of_decide_eq_false b3
    refine wpS_exit ?_
    refine thenS_x ?_
    refine thenS_x ?_
    refine blockS_h ?_
    refine thenS_n ?_
    refine wpS_seq ?_
    refine wpS_region ?_
    refine s_y (v := .bool false) (y_assign rfl) rfl ?_
    refine wpL_nil ?_
    refine thenS_n ?_
    refine wpS_ret ?_
    refine fin1 (v := .bool false) (.inr rfl) (.nil) Try.results133 rfl ?_
    exact fun w' hs => ⟨congrArg (fun b : Bool => Ending.returned (.bool b)) ((decide_eq_false (noI_end (j := i) (by omega) (by assumption))).symm), hs⟩

theorem ready_c (p : Par) (d : Option Addr) (nd cd : Nat) (dl : List Bool) (i : Int) (w : World) (hnd : dl.length = nd) (hrd : Rds w d (dl.flatMap boolV)) (hbd : nd ≤ 1000000) : Pure Try.prog 130 #[.agg #[.int .i64 (p.n0), .int .i64 (p.n1), .int .i64 (p.n2), .int .i64 (p.n3)], .slice d nd cd, .int .i64 i] w (.bool (readyP p dl i)) := by
  refine calls_S (n := 47) (σ0 := (upd (upd (upd fr0 0 (.agg #[.int .i64 (p.n0), .int .i64 (p.n1), .int .i64 (p.n2), .int .i64 (p.n3)])) 1 (.slice d nd cd)) 2 (.int .i64 i))) (D := []) (A := []) Try.func130 rfl Try.ntmps130 rfl (a3_fr _ _ _) (SH.start w) ?_
  have hrl0 := reads_len p i
  refine wpS_seq ?_
  refine wpS_region ?_
  refine s_e rfl ?_
  refine e_box (v := .agg #[.int .i64 (p.n0), .int .i64 (p.n1), .int .i64 (p.n2), .int .i64 (p.n3)]) (l := [.int .i64 (p.n0), .int .i64 (p.n1), .int .i64 (p.n2), .int .i64 (p.n3)]) rfl rfl ?_
  intro b_1
  refine s_y (v := .bool false) (y_assign rfl) rfl ?_
  refine wpL_nil ?_
  refine thenS_n ?_
  refine wpS_seq ?_
  refine wpS_seq ?_
  refine wpS_region ?_
  refine s_y (v := .agg #[.int .i64 (p.n0), .int .i64 (p.n1), .int .i64 (p.n2), .int .i64 (p.n3)]) (y_loadN (vs := [.int .i64 (p.n0), .int .i64 (p.n1), .int .i64 (p.n2), .int .i64 (p.n3)]) rfl Try.isAgg53 Try.sizeOf53 (ownN .h rfl)) rfl ?_
  refine s_y (v := .int .i64 i) (y_move rfl) rfl ?_
  refine s_y (v := .tuple #[.agg #[.int .i64 (((tkAt p i).1).t0), .int .i64 (((tkAt p i).1).t1), .int .i64 (((tkAt p i).1).t2), .int .i64 (((tkAt p i).1).t3), .bool (((tkAt p i).1).t4)], .bool ((tkAt p i).2)]) (y_call (args := #[.agg #[.int .i64 (p.n0), .int .i64 (p.n1), .int .i64 (p.n2), .int .i64 (p.n3)], .int .i64 i]) (v := .tuple #[.agg #[.int .i64 (((tkAt p i).1).t0), .int .i64 (((tkAt p i).1).t1), .int .i64 (((tkAt p i).1).t2), .int .i64 (((tkAt p i).1).t3), .bool (((tkAt p i).1).t4)], .bool ((tkAt p i).2)]) Try.call122 (ev2 rfl rfl) (fun w hs => task_c p i w)) rfl ?_
  refine s_y (v := .tuple #[.agg #[.int .i64 (((tkAt p i).1).t0), .int .i64 (((tkAt p i).1).t1), .int .i64 (((tkAt p i).1).t2), .int .i64 (((tkAt p i).1).t3), .bool (((tkAt p i).1).t4)], .bool ((tkAt p i).2)]) (y_move rfl) rfl ?_
  refine s_y (v := .agg #[.int .i64 (((tkAt p i).1).t0), .int .i64 (((tkAt p i).1).t1), .int .i64 (((tkAt p i).1).t2), .int .i64 (((tkAt p i).1).t3), .bool (((tkAt p i).1).t4)]) (y_extract (v := .agg #[.int .i64 (((tkAt p i).1).t0), .int .i64 (((tkAt p i).1).t1), .int .i64 (((tkAt p i).1).t2), .int .i64 (((tkAt p i).1).t3), .bool (((tkAt p i).1).t4)]) rfl rfl) rfl ?_
  refine s_y (v := .bool ((tkAt p i).2)) (y_extract (v := .bool ((tkAt p i).2)) rfl rfl) rfl ?_
  refine s_e rfl ?_
  refine e_alloc (l := [.int .i64 0, .int .i64 0, .int .i64 0, .int .i64 0, .bool false]) Try.zeroValue120 rfl ?_
  intro b_2
  refine s_e0 ?_
  refine e_store (vs := [.int .i64 (((tkAt p i).1).t0), .int .i64 (((tkAt p i).1).t1), .int .i64 (((tkAt p i).1).t2), .int .i64 (((tkAt p i).1).t3), .bool (((tkAt p i).1).t4)]) (l' := [.int .i64 (((tkAt p i).1).t0), .int .i64 (((tkAt p i).1).t1), .int .i64 (((tkAt p i).1).t2), .int .i64 (((tkAt p i).1).t3), .bool (((tkAt p i).1).t4)]) rfl rfl rfl rfl Try.sizeOf120 .h (Nat.le_of_ble_eq_true rfl) rfl ?_
  refine s_y (v := .bool ((tkAt p i).2)) (y_assign rfl) rfl ?_
  refine wpL_nil ?_
  refine thenS_n ?_
  refine wpS_seq ?_
  refine wpS_region ?_
  refine s_y (v := .bool ((tkAt p i).2)) (y_move rfl) rfl ?_
  refine s_y (v := .bool (!((tkAt p i).2))) (y_not (b := (tkAt p i).2) rfl) rfl ?_
  refine wpL_nil ?_
  refine thenS_n ?_
  refine wpS_cond (t := !((tkAt p i).2)) rfl (fun b3 => ?_) (fun b3 => ?_)
  · -- !((tkAt p i).2) true
    have b4 : ((tkAt p i).2) = false := by simpa using b3
    refine wpS_seq ?_
    refine wpS_region ?_
    refine s_y (v := .bool false) (y_assign rfl) rfl ?_
    refine wpL_nil ?_
    refine thenS_n ?_
    refine wpS_ret ?_
    refine thenS_r ?_
    refine fin1 (v := .bool false) (.inr rfl) (.nil) Try.results130 rfl ?_
    exact fun w' hs => ⟨congrArg (fun b : Bool => Ending.returned (.bool b)) ((rdy_no (by first | assumption | exact ref_no hsm (by omega))).symm), hs⟩
  · -- !((tkAt p i).2) false
    have b5 : ((tkAt p i).2) = true := by simpa using b3
    have hsome : (tkAt p i).2 = true := b5
    refine wpS_skip ?_
    refine thenS_n ?_
    refine wpS_seq ?_
    refine wpS_seq ?_
    refine wpS_region ?_
    refine s_y (v := .agg #[.int .i64 (p.n0), .int .i64 (p.n1), .int .i64 (p.n2), .int .i64 (p.n3)]) (y_loadN (vs := [.int .i64 (p.n0), .int .i64 (p.n1), .int .i64 (p.n2), .int .i64 (p.n3)]) rfl Try.isAgg53 Try.sizeOf53 (ownN (.t .h) rfl)) rfl ?_
    refine s_y (v := .int .i64 i) (y_move rfl) rfl ?_
    refine s_e rfl ?_
    refine e_call (f := 124) (args := #[.agg #[.int .i64 (p.n0), .int .i64 (p.n1), .int .i64 (p.n2), .int .i64 (p.n3)], .int .i64 i]) (X := Option Addr × Nat) (A := []) (M := [cel b_2 120 [.int .i64 (((tkAt p i).1).t0), .int .i64 (((tkAt p i).1).t1), .int .i64 (((tkAt p i).1).t2), .int .i64 (((tkAt p i).1).t3), .bool (((tkAt p i).1).t4)], cel b_1 53 [.int .i64 (p.n0), .int .i64 (p.n1), .int .i64 (p.n2), .int .i64 (p.n3)]]) (V := slV (readsP p i)) (A' := fun x => [slR spotV 3 144 (readsP p i) x]) (C := fun _ => True) Try.call124 (ev2 rfl rfl) (.p .h (.p .h .nil)) (fun w hs => reads_c p i w) ?_
    rintro ⟨a_6, c_7⟩ -
    refine s_y (v := .int .i64 ((((readsP p i).length : Nat) : Int))) (y_len (ty' := 0) (at_ := #[]) rfl Try.underlying58) rfl ?_
    refine s_y (v := .int .i64 0) (y_move rfl) rfl ?_
    refine wpL_nil ?_
    refine thenS_n ?_
    refine wpS_block ?_
    refine wpS_loop (fun mez ds σ L => ∃ j : Nat, mez = (readsP p i).length - j ∧ (j ≤ (readsP p i).length) ∧ (NoO p dl (readsP p i) j) ∧ ds = [] ∧ σ 1 = .slice d nd cd ∧ σ 3 = .pointer (some ⟨b_1, 0, none⟩) ∧ σ 22 = .slice a_6 ((readsP p i).length) c_7 ∧ σ 23 = .int .i64 ((((readsP p i).length : Nat) : Int)) ∧ σ 24 = .int .i64 (((j : Nat) : Int)) ∧ Ent L [osl a_6 c_7 ((readsP p i).length) 3 144 ((readsP p i).flatMap spotV), cel b_2 120 [.int .i64 (((tkAt p i).1).t0), .int .i64 (((tkAt p i).1).t1), .int .i64 (((tkAt p i).1).t2), .int .i64 (((tkAt p i).1).t3), .bool (((tkAt p i).1).t4)], cel b_1 53 [.int .i64 (p.n0), .int .i64 (p.n1), .int .i64 (p.n2), .int .i64 (p.n3)]]) (m0 := (readsP p i).length - 0) ⟨0, rfl, by omega, (noO_0 _ _ _), rfl, rfl, rfl, rfl, rfl, rfl, .p .h (.p .h (.p .h .nil))⟩ ?_
    rintro mez ds σ L ⟨j, hm_9, hf0_9, hf1_9, rfl, h1_9, h3_9, h22_9, h23_9, h24_9, hE_9⟩
    refine wpS_ent hE_9 ?_; clear hE_9
    refine wpS_seq ?_
    refine wpS_region ?_
    refine s_y (v := .bool (decide (j < ((readsP p i).length)))) (y_lss (a := ((j : Nat) : Int)) (b := (((readsP p i).length : Nat) : Int)) (c := decide (j < ((readsP p i).length))) h24_9 h23_9 (decide_eq_decide.2 (by omega))) rfl ?_
    refine wpL_nil ?_
    refine thenS_n ?_
    refine wpS_seq ?_
    refine wpS_cond (t := decide (j < ((readsP p i).length))) rfl (fun b10 => ?_) (fun b10 => ?_)
    · -- decide (j < ((readsP p i).length)) true
      have p10 := of_decide_eq_true b10
      refine wpS_skip ?_
      refine thenS_n ?_
      refine wpS_seq ?_
      refine wpS_block ?_
      refine wpS_seq ?_
      refine wpS_region ?_
      refine s_y (v := .pointer (some ⟨aB a_6, aO a_6 + j * 3, none⟩)) (y_idx (o := j * 3) h22_9 h24_9 Try.underlying58 Try.sizeOf144 (oslR .h) (fl_len spotV_len _) (by decide) (by omega) (by omega) (by omega)) rfl ?_
      refine s_y (v := .agg #[.int .i64 (((readsP p i).getD j default).s0), .int .i64 (((readsP p i).getD j default).s1), .int .i64 (((readsP p i).getD j default).s2)]) (y_loadN (vs := spotV ((readsP p i).getD j default)) rfl Try.isAgg144 Try.sizeOf144 (rdN (oslR .h) (fl_getN spotV_len (readsP p i) j (by first | omega | (simp only [List.length_set, List.length_take, List.length_drop]; done) | (simp only [List.length_set, List.length_take, List.length_drop]; omega))))) rfl ?_
      refine s_e rfl ?_
      refine e_alloc (l := [.int .i64 0, .int .i64 0, .int .i64 0]) Try.zeroValue144 rfl ?_
      intro b_11
      refine s_e0 ?_
      refine e_store (vs := [.int .i64 (((readsP p i).getD j default).s0), .int .i64 (((readsP p i).getD j default).s1), .int .i64 (((readsP p i).getD j default).s2)]) (l' := [.int .i64 (((readsP p i).getD j default).s0), .int .i64 (((readsP p i).getD j default).s1), .int .i64 (((readsP p i).getD j default).s2)]) rfl rfl rfl rfl Try.sizeOf144 .h (Nat.le_of_ble_eq_true rfl) rfl ?_
      refine wpL_nil ?_
      refine thenS_n ?_
      refine wpS_seq ?_
      refine wpS_region ?_
      refine s_y (v := .agg #[.int .i64 (p.n0), .int .i64 (p.n1), .int .i64 (p.n2), .int .i64 (p.n3)]) (y_loadN (vs := [.int .i64 (p.n0), .int .i64 (p.n1), .int .i64 (p.n2), .int .i64 (p.n3)]) h3_9 Try.isAgg53 Try.sizeOf53 (ownN (.t (.t (.t .h))) rfl)) rfl ?_
      refine s_y (v := .agg #[.int .i64 (((readsP p i).getD j default).s0), .int .i64 (((readsP p i).getD j default).s1), .int .i64 (((readsP p i).getD j default).s2)]) (y_loadN (vs := [.int .i64 (((readsP p i).getD j default).s0), .int .i64 (((readsP p i).getD j default).s1), .int .i64 (((readsP p i).getD j default).s2)]) rfl Try.isAgg144 Try.sizeOf144 (ownN .h rfl)) rfl ?_
      refine s_y (v := .int .i64 (makesP p ((readsP p i).getD j default))) (y_call (args := #[.agg #[.int .i64 (p.n0), .int .i64 (p.n1), .int .i64 (p.n2), .int .i64 (p.n3)], .agg #[.int .i64 (((readsP p i).getD j default).s0), .int .i64 (((readsP p i).getD j default).s1), .int .i64 (((readsP p i).getD j default).s2)]]) (v := .int .i64 (makesP p ((readsP p i).getD j default))) Try.call128 (ev2 rfl rfl) (fun w hs => makes_c p ((readsP p i).getD j default) w)) rfl ?_
      refine s_y (v := .int .i64 (makesP p ((readsP p i).getD j default))) (y_assign rfl) rfl ?_
      refine wpL_nil ?_
      refine thenS_n ?_
      refine wpS_seq ?_
      refine wpS_region ?_
      refine s_y (v := .int .i64 (makesP p ((readsP p i).getD j default))) (y_move rfl) rfl ?_
      refine s_y (v := .slice d nd cd) (y_move h1_9) rfl ?_
      refine s_y (v := .int .i64 (((nd : Nat) : Int))) (y_len (ty' := 0) (at_ := #[]) rfl Try.underlying50) rfl ?_
      refine s_y (v := .bool (decide ((((nd : Nat) : Int) : Int) ≤ (makesP p ((readsP p i).getD j default))))) (y_geq (a := makesP p ((readsP p i).getD j default)) (b := ((nd : Nat) : Int)) rfl rfl rfl) rfl ?_
      refine s_y (v := .bool (decide ((((nd : Nat) : Int) : Int) ≤ (makesP p ((readsP p i).getD j default))))) (y_move rfl) rfl ?_
      rcases Bool.eq_false_or_eq_true (decide ((((nd : Nat) : Int) : Int) ≤ (makesP p ((readsP p i).getD j default)))) with b12 | b12
      · -- decide ((((nd : Nat) : Int) : Int) ≤ (makesP p ((readsP p i).getD j default))) True
        have p12 := of_decide_eq_true b12
        refine s_no rfl rfl rfl rfl (b' := decide ((((nd : Nat) : Int) : Int) ≤ (makesP p ((readsP p i).getD j default)))) rfl b12 ?_
        refine s_no rfl rfl rfl rfl (b' := decide ((((nd : Nat) : Int) : Int) ≤ (makesP p ((readsP p i).getD j default)))) rfl b12 ?_
        refine s_no rfl rfl rfl rfl (b' := decide ((((nd : Nat) : Int) : Int) ≤ (makesP p ((readsP p i).getD j default)))) rfl b12 ?_
        refine s_nu rfl rfl rfl rfl rfl ?_
        refine s_nu rfl rfl rfl rfl rfl ?_
        refine s_nu rfl rfl rfl rfl rfl ?_
        refine s_nu rfl rfl rfl rfl rfl ?_
        refine s_nu rfl rfl rfl rfl rfl ?_
        refine s_no rfl rfl rfl rfl (b' := decide ((((nd : Nat) : Int) : Int) ≤ (makesP p ((readsP p i).getD j default)))) rfl b12 ?_
        refine s_y (v := .bool true) (y_pickT (b := decide ((((nd : Nat) : Int) : Int) ≤ (makesP p ((readsP p i).getD j default)))) (v := .bool true) rfl b12 rfl) rfl ?_
        refine wpL_nil ?_
        refine thenS_n ?_
        refine wpS_cond_t rfl ?_
        refine wpS_seq ?_
        refine wpS_region ?_
        refine s_y (v := .bool false) (y_assign rfl) rfl ?_
        refine wpL_nil ?_
        refine thenS_n ?_
        refine wpS_ret ?_
        refine blockS_r ?_
        refine thenS_r ?_
        refine thenS_r ?_
        refine blockS_r ?_
        refine thenS_r ?_
        refine fin1 (v := .bool false) (.inr rfl) (.nil) Try.results130 rfl ?_
        exact fun w' hs => ⟨congrArg (fun b : Bool => Ending.returned (.bool b)) ((rdy_hit (j := j) (by omega) (by first | exact open_hi (by omega) | (rw [open_at (by omega) (by assumption)]; rfl))).symm), hs⟩
      · -- decide ((((nd : Nat) : Int) : Int) ≤ (makesP p ((readsP p i).getD j default))) False
        have p12 := of_decide_eq_false b12
        refine s_gy (y_move rfl) rfl rfl rfl rfl (b' := decide ((((nd : Nat) : Int) : Int) ≤ (makesP p ((readsP p i).getD j default)))) rfl b12 ?_
        refine s_gy (y_geq (a := makesP p ((readsP p i).getD j default)) (b := 0) rfl rfl rfl) rfl rfl rfl rfl (b' := decide ((((nd : Nat) : Int) : Int) ≤ (makesP p ((readsP p i).getD j default)))) rfl b12 ?_
        refine s_gy (y_move rfl) rfl rfl rfl rfl (b' := decide ((((nd : Nat) : Int) : Int) ≤ (makesP p ((readsP p i).getD j default)))) rfl b12 ?_
        rcases Bool.eq_false_or_eq_true (decide ((0 : Int) ≤ (makesP p ((readsP p i).getD j default)))) with b13 | b13
        · -- decide ((0 : Int) ≤ (makesP p ((readsP p i).getD j default))) True
          have p13 := of_decide_eq_true b13
          refine s_gy (y_move h1_9) rfl rfl rfl rfl (b' := decide ((0 : Int) ≤ (makesP p ((readsP p i).getD j default)))) rfl b13 ?_
          refine s_gy (y_move rfl) rfl rfl rfl rfl (b' := decide ((0 : Int) ≤ (makesP p ((readsP p i).getD j default)))) rfl b13 ?_
          refine s_gy (y_idx (o := ((makesP p ((readsP p i).getD j default)).toNat) * 1) rfl rfl Try.underlying50 Try.sizeOf4 (oldR hrd) ((fl_len boolV_len _).trans (by first | omega | (simp only [List.length_set, List.length_take, List.length_drop]; done) | (simp only [List.length_set, List.length_take, List.length_drop]; omega))) (by decide) (by omega) (by omega) (by omega)) rfl rfl rfl rfl (b' := decide ((0 : Int) ≤ (makesP p ((readsP p i).getD j default)))) rfl b13 ?_
          refine s_gy (y_load1 (v := .bool ((dl.getD ((makesP p ((readsP p i).getD j default)).toNat) default))) rfl Try.isAgg4 (rd1 (k := ((makesP p ((readsP p i).getD j default)).toNat) * 1) (oldR hrd) (fl_get0 boolV_len dl ((makesP p ((readsP p i).getD j default)).toNat) (by first | omega | (simp only [List.length_set, List.length_take, List.length_drop]; done) | (simp only [List.length_set, List.length_take, List.length_drop]; omega)) rfl))) rfl rfl rfl rfl (b' := decide ((0 : Int) ≤ (makesP p ((readsP p i).getD j default)))) rfl b13 ?_
          refine s_gy (y_not (b := (dl.getD ((makesP p ((readsP p i).getD j default)).toNat) default)) rfl) rfl rfl rfl rfl (b' := decide ((0 : Int) ≤ (makesP p ((readsP p i).getD j default)))) rfl b13 ?_
          refine s_gy (y_pickT (b := decide ((0 : Int) ≤ (makesP p ((readsP p i).getD j default)))) (v := .bool (!(dl.getD ((makesP p ((readsP p i).getD j default)).toNat) default))) rfl b13 rfl) rfl rfl rfl rfl (b' := decide ((((nd : Nat) : Int) : Int) ≤ (makesP p ((readsP p i).getD j default)))) rfl b12 ?_
          refine s_y (v := .bool (!(dl.getD ((makesP p ((readsP p i).getD j default)).toNat) default))) (y_pickF (b := decide ((((nd : Nat) : Int) : Int) ≤ (makesP p ((readsP p i).getD j default)))) (v := .bool (!(dl.getD ((makesP p ((readsP p i).getD j default)).toNat) default))) rfl b12 rfl) rfl ?_
          refine wpL_nil ?_
          refine thenS_n ?_
          refine wpS_cond (t := !(dl.getD ((makesP p ((readsP p i).getD j default)).toNat) default)) rfl (fun b14 => ?_) (fun b14 => ?_)
          · -- !(dl.getD ((makesP p ((readsP p i).getD j default)).toNat) default) true
            have b15 : (dl.getD ((makesP p ((readsP p i).getD j default)).toNat) default) = false := by simpa using b14
            refine wpS_seq ?_
            refine wpS_region ?_
            refine s_y (v := .bool false) (y_assign rfl) rfl ?_
            refine wpL_nil ?_
            refine thenS_n ?_
            refine wpS_ret ?_
            refine blockS_r ?_
            refine thenS_r ?_
            refine thenS_r ?_
            refine blockS_r ?_
            refine thenS_r ?_
            refine fin1 (v := .bool false) (.inr rfl) (.nil) Try.results130 rfl ?_
            exact fun w' hs => ⟨congrArg (fun b : Bool => Ending.returned (.bool b)) ((rdy_hit (j := j) (by omega) (by first | exact open_hi (by omega) | (rw [open_at (by omega) (by assumption)]; rfl))).symm), hs⟩
          · -- !(dl.getD ((makesP p ((readsP p i).getD j default)).toNat) default) false
            have b16 : (dl.getD ((makesP p ((readsP p i).getD j default)).toNat) default) = true := by simpa using b14
            refine wpS_skip ?_
            refine blockS_n ?_
            refine thenS_n ?_
            refine wpS_region ?_
            refine s_y (v := .int .i64 ((((j + 1) : Nat) : Int))) (y_add (a := ((j : Nat) : Int)) (b := 1) (c := (((j + 1) : Nat) : Int)) h24_9 rfl (wI (by omega) (by omega) (by omega))) rfl ?_
            refine s_y (v := .int .i64 ((((j + 1) : Nat) : Int))) (y_move rfl) rfl ?_
            refine wpL_nil ?_
            refine thenS_n ?_
            exact ⟨_, by omega, ⟨(j + 1), rfl, by omega, (noO_step (by assumption) (by first | exact open_lo (by omega) | (rw [open_at (by omega) (by assumption)]; rfl))), rfl, h1_9, h3_9, h22_9, h23_9, rfl, .p (.t .h) (.p (.t .h) (.p (.t .h) .nil))⟩⟩
        · -- decide ((0 : Int) ≤ (makesP p ((readsP p i).getD j default))) False
          have p13 := of_decide_eq_false b13
          refine s_no rfl rfl rfl rfl (b' := decide ((0 : Int) ≤ (makesP p ((readsP p i).getD j default)))) rfl b13 ?_
          refine s_no rfl rfl rfl rfl (b' := decide ((0 : Int) ≤ (makesP p ((readsP p i).getD j default)))) rfl b13 ?_
          refine s_no rfl rfl rfl rfl (b' := decide ((0 : Int) ≤ (makesP p ((readsP p i).getD j default)))) rfl b13 ?_
          refine s_no rfl rfl rfl rfl (b' := decide ((0 : Int) ≤ (makesP p ((readsP p i).getD j default)))) rfl b13 ?_
          refine s_no rfl rfl rfl rfl (b' := decide ((0 : Int) ≤ (makesP p ((readsP p i).getD j default)))) rfl b13 ?_
          refine s_gy (y_pickF (b := decide ((0 : Int) ≤ (makesP p ((readsP p i).getD j default)))) (v := .bool false) rfl b13 rfl) rfl rfl rfl rfl (b' := decide ((((nd : Nat) : Int) : Int) ≤ (makesP p ((readsP p i).getD j default)))) rfl b12 ?_
          refine s_y (v := .bool false) (y_pickF (b := decide ((((nd : Nat) : Int) : Int) ≤ (makesP p ((readsP p i).getD j default)))) (v := .bool false) rfl b12 rfl) rfl ?_
          refine wpL_nil ?_
          refine thenS_n ?_
          refine wpS_cond_f rfl ?_
          refine wpS_skip ?_
          refine blockS_n ?_
          refine thenS_n ?_
          refine wpS_region ?_
          refine s_y (v := .int .i64 ((((j + 1) : Nat) : Int))) (y_add (a := ((j : Nat) : Int)) (b := 1) (c := (((j + 1) : Nat) : Int)) h24_9 rfl (wI (by omega) (by omega) (by omega))) rfl ?_
          refine s_y (v := .int .i64 ((((j + 1) : Nat) : Int))) (y_move rfl) rfl ?_
          refine wpL_nil ?_
          refine thenS_n ?_
          exact ⟨_, by omega, ⟨(j + 1), rfl, by omega, (noO_step (by assumption) (by first | exact open_lo (by omega) | (rw [open_at (by omega) (by assumption)]; rfl))), rfl, h1_9, h3_9, h22_9, h23_9, rfl, .p (.t .h) (.p (.t .h) (.p (.t .h) .nil))⟩⟩
    · -- decide (j < ((readsP p i).length)) false
      have p10 := of_decide_eq_false b10
      refine wpS_exit ?_
      refine thenS_x ?_
      refine thenS_x ?_
      refine blockS_h ?_
      refine thenS_n ?_
      refine wpS_seq ?_
      refine wpS_region ?_
      refine s_y (v := .bool true) (y_assign rfl) rfl ?_
      refine wpL_nil ?_
      refine thenS_n ?_
      refine wpS_ret ?_
      refine fin1 (v := .bool true) (.inr rfl) (.nil) Try.results130 rfl ?_
      exact fun w' hs => ⟨congrArg (fun b : Bool => Ending.returned (.bool b)) ((rdy_all (j := j) (by first | exact hsome | exact tk_some.trans (decide_eq_true (by omega))) (by omega) (by assumption)).symm), hs⟩

theorem rready_c (p : Par) (d : Option Addr) (nd cd : Nat) (dl : List Bool) (i : Int) (hsm : Small p) (w : World) (hnd : dl.length = nd) (hrd : Rds w d (dl.flatMap boolV)) (hbd : nd ≤ 1000000) : Pure Try.prog 131 #[.agg #[.int .i64 (p.n0), .int .i64 (p.n1), .int .i64 (p.n2), .int .i64 (p.n3)], .slice d nd cd, .int .i64 i] w (.bool (readyP p dl i)) := by
  refine calls_S (n := 49) (σ0 := (upd (upd (upd fr0 0 (.agg #[.int .i64 (p.n0), .int .i64 (p.n1), .int .i64 (p.n2), .int .i64 (p.n3)])) 1 (.slice d nd cd)) 2 (.int .i64 i))) (D := []) (A := []) Try.func131 rfl Try.ntmps131 rfl (a3_fr _ _ _) (SH.start w) ?_
  have h88 := hsm.h8
  have hrl := hsm.rlen
  have hcl := hsm.len
  have hrl0 := reads_len p i
  refine wpS_seq ?_
  refine wpS_region ?_
  refine s_e rfl ?_
  refine e_box (v := .agg #[.int .i64 (p.n0), .int .i64 (p.n1), .int .i64 (p.n2), .int .i64 (p.n3)]) (l := [.int .i64 (p.n0), .int .i64 (p.n1), .int .i64 (p.n2), .int .i64 (p.n3)]) rfl rfl ?_
  intro b_1
  refine s_y (v := .bool false) (y_assign rfl) rfl ?_
  refine wpL_nil ?_
  refine thenS_n ?_
  refine wpS_seq ?_
  refine wpS_seq ?_
  refine wpS_region ?_
  refine s_y (v := .int .i64 i) (y_move rfl) rfl ?_
  refine s_y (v := .bool (decide ((i : Int) < 0))) (y_lss (a := i) (b := 0) rfl rfl rfl) rfl ?_
  refine s_y (v := .bool (decide ((i : Int) < 0))) (y_move rfl) rfl ?_
  rcases Bool.eq_false_or_eq_true (decide ((i : Int) < 0)) with b2 | b2
  · -- decide ((i : Int) < 0) True
    have p2 := of_decide_eq_true b2
    refine s_no rfl rfl rfl rfl (b' := decide ((i : Int) < 0)) rfl b2 ?_
    refine s_no rfl rfl rfl rfl (b' := decide ((i : Int) < 0)) rfl b2 ?_
    refine s_no rfl rfl rfl rfl (b' := decide ((i : Int) < 0)) rfl b2 ?_
    refine s_no rfl rfl rfl rfl (b' := decide ((i : Int) < 0)) rfl b2 ?_
    refine s_no rfl rfl rfl rfl (b' := decide ((i : Int) < 0)) rfl b2 ?_
    refine s_y (v := .bool true) (y_pickT (b := decide ((i : Int) < 0)) (v := .bool true) rfl b2 rfl) rfl ?_
    refine wpL_nil ?_
    refine thenS_n ?_
    refine wpS_cond_t rfl ?_
    refine wpS_seq ?_
    refine wpS_region ?_
    refine s_y (v := .bool false) (y_assign rfl) rfl ?_
    refine wpL_nil ?_
    refine thenS_n ?_
    refine wpS_ret ?_
    refine thenS_r ?_
    refine fin1 (v := .bool false) (.inr rfl) (.nil) Try.results131 rfl ?_
    exact fun w' hs => ⟨congrArg (fun b : Bool => Ending.returned (.bool b)) ((rdy_no (by first | assumption | exact ref_no hsm (by omega))).symm), hs⟩
  · -- decide ((i : Int) < 0) False
    have p2 := of_decide_eq_false b2
    refine s_gy (y_move rfl) rfl rfl rfl rfl (b' := decide ((i : Int) < 0)) rfl b2 ?_
    refine s_gy (y_loadN (vs := [.int .i64 (p.n0), .int .i64 (p.n1), .int .i64 (p.n2), .int .i64 (p.n3)]) rfl Try.isAgg53 Try.sizeOf53 (ownN .h rfl)) rfl rfl rfl rfl (b' := decide ((i : Int) < 0)) rfl b2 ?_
    refine s_ge rfl rfl rfl rfl (b' := decide ((i : Int) < 0)) rfl b2 ?_
    refine e_call (f := 97) (args := #[.agg #[.int .i64 (p.n0), .int .i64 (p.n1), .int .i64 (p.n2), .int .i64 (p.n3)]]) (X := Option Addr × Nat) (A := []) (M := [cel b_1 53 [.int .i64 (p.n0), .int .i64 (p.n1), .int .i64 (p.n2), .int .i64 (p.n3)]]) (V := slV (refT p)) (A' := fun x => [slR taskV 5 120 (refT p) x]) (C := fun _ => True) Try.call97 (ev1 rfl) (.p .h .nil) (fun w hs => rtasks_c p hsm.h8 w) ?_
    rintro ⟨a_3, c_4⟩ -
    refine s_gy (y_len (ty' := 0) (at_ := #[]) rfl Try.underlying115) rfl rfl rfl rfl (b' := decide ((i : Int) < 0)) rfl b2 ?_
    refine s_gy (y_geq (a := i) (b := (((refT p).length : Nat) : Int)) rfl rfl rfl) rfl rfl rfl rfl (b' := decide ((i : Int) < 0)) rfl b2 ?_
    refine s_y (v := .bool (decide (((((refT p).length : Nat) : Int) : Int) ≤ i))) (y_pickF (b := decide ((i : Int) < 0)) (v := .bool (decide (((((refT p).length : Nat) : Int) : Int) ≤ i))) rfl b2 rfl) rfl ?_
    refine wpL_nil ?_
    refine thenS_n ?_
    refine wpS_cond (t := decide (((((refT p).length : Nat) : Int) : Int) ≤ i)) rfl (fun b5 => ?_) (fun b5 => ?_)
    · -- decide (((((refT p).length : Nat) : Int) : Int) ≤ i) true
      have p5 := of_decide_eq_true b5
      refine wpS_seq ?_
      refine wpS_region ?_
      refine s_y (v := .bool false) (y_assign rfl) rfl ?_
      refine wpL_nil ?_
      refine thenS_n ?_
      refine wpS_ret ?_
      refine thenS_r ?_
      refine fin1 (v := .bool false) (.inr rfl) (.nil) Try.results131 rfl ?_
      exact fun w' hs => ⟨congrArg (fun b : Bool => Ending.returned (.bool b)) ((rdy_no (by first | assumption | exact ref_no hsm (by omega))).symm), hs⟩
    · -- decide (((((refT p).length : Nat) : Int) : Int) ≤ i) false
      have p5 := of_decide_eq_false b5
      refine wpS_skip ?_
      refine thenS_n ?_
      refine wpS_seq ?_
      refine wpS_region ?_
      refine s_y (v := .agg #[.int .i64 (p.n0), .int .i64 (p.n1), .int .i64 (p.n2), .int .i64 (p.n3)]) (y_loadN (vs := [.int .i64 (p.n0), .int .i64 (p.n1), .int .i64 (p.n2), .int .i64 (p.n3)]) rfl Try.isAgg53 Try.sizeOf53 (ownN (.t .h) rfl)) rfl ?_
      refine s_y (v := .int .i64 i) (y_move rfl) rfl ?_
      refine s_e rfl ?_
      refine e_call (f := 125) (args := #[.agg #[.int .i64 (p.n0), .int .i64 (p.n1), .int .i64 (p.n2), .int .i64 (p.n3)], .int .i64 i]) (X := Option Addr × Nat) (A := []) (M := [osl a_3 c_4 ((refT p).length) 5 120 ((refT p).flatMap taskV), cel b_1 53 [.int .i64 (p.n0), .int .i64 (p.n1), .int .i64 (p.n2), .int .i64 (p.n3)]]) (V := slV (readsP p i)) (A' := fun x => [slR spotV 3 144 (readsP p i) x]) (C := fun _ => True) Try.call125 (ev2 rfl rfl) (.p .h (.p .h .nil)) (fun w hs => rreads_c p i hsm w) ?_
      rintro ⟨a_6, c_7⟩ -
      refine s_y (v := .slice a_6 ((readsP p i).length) c_7) (y_assign rfl) rfl ?_
      refine wpL_nil ?_
      refine thenS_n ?_
      refine wpS_seq ?_
      refine wpS_seq ?_
      refine wpS_region ?_
      refine s_y (v := .int .i64 0) (y_assign rfl) rfl ?_
      refine wpL_nil ?_
      refine thenS_n ?_
      refine wpS_block ?_
      refine wpS_loop (fun mez ds σ L => ∃ j : Nat, mez = (readsP p i).length - j ∧ (j ≤ (readsP p i).length) ∧ (NoO p dl (readsP p i) j) ∧ ds = [] ∧ σ 1 = .slice d nd cd ∧ σ 3 = .pointer (some ⟨b_1, 0, none⟩) ∧ σ 7 = .slice a_6 ((readsP p i).length) c_7 ∧ σ 8 = .int .i64 (((j : Nat) : Int)) ∧ Ent L [osl a_6 c_7 ((readsP p i).length) 3 144 ((readsP p i).flatMap spotV), osl a_3 c_4 ((refT p).length) 5 120 ((refT p).flatMap taskV), cel b_1 53 [.int .i64 (p.n0), .int .i64 (p.n1), .int .i64 (p.n2), .int .i64 (p.n3)]]) (m0 := (readsP p i).length - 0) ⟨0, rfl, by omega, (noO_0 _ _ _), rfl, rfl, rfl, rfl, rfl, .p .h (.p .h (.p .h .nil))⟩ ?_
      rintro mez ds σ L ⟨j, hm_9, hf0_9, hf1_9, rfl, h1_9, h3_9, h7_9, h8_9, hE_9⟩
      refine wpS_ent hE_9 ?_; clear hE_9
      refine wpS_seq ?_
      refine wpS_seq ?_
      refine wpS_region ?_
      refine s_y (v := .int .i64 (((j : Nat) : Int))) (y_move h8_9) rfl ?_
      refine s_y (v := .slice a_6 ((readsP p i).length) c_7) (y_move h7_9) rfl ?_
      refine s_y (v := .int .i64 ((((readsP p i).length : Nat) : Int))) (y_len (ty' := 0) (at_ := #[]) rfl Try.underlying58) rfl ?_
      refine s_y (v := .bool (decide (j < ((readsP p i).length)))) (y_lss (a := ((j : Nat) : Int)) (b := (((readsP p i).length : Nat) : Int)) (c := decide (j < ((readsP p i).length))) rfl rfl (decide_eq_decide.2 (by omega))) rfl ?_
      refine wpL_nil ?_
      refine thenS_n ?_
      refine wpS_cond (t := decide (j < ((readsP p i).length))) rfl (fun b10 => ?_) (fun b10 => ?_)
      · -- decide (j < ((readsP p i).length)) true
        have p10 := of_decide_eq_true b10
        refine wpS_skip ?_
        refine thenS_n ?_
        refine wpS_seq ?_
        refine wpS_block ?_
        refine wpS_seq ?_
        refine wpS_lex (by kernel_rfl) (by kernel_rfl) ?_
        refine x_y (v := .agg #[.int .i64 (p.n0), .int .i64 (p.n1), .int .i64 (p.n2), .int .i64 (p.n3)]) (y_loadN (vs := [.int .i64 (p.n0), .int .i64 (p.n1), .int .i64 (p.n2), .int .i64 (p.n3)]) h3_9 Try.isAgg53 Try.sizeOf53 (ownN (.t (.t .h)) rfl)) rfl ?_
        refine x_y (v := .slice a_6 ((readsP p i).length) c_7) (y_move h7_9) rfl ?_
        refine x_y (v := .int .i64 (((j : Nat) : Int))) (y_move h8_9) rfl ?_
        refine x_y (v := .pointer (some ⟨aB a_6, aO a_6 + j * 3, none⟩)) (y_idx (o := j * 3) rfl rfl Try.underlying58 Try.sizeOf144 (oslR .h) (fl_len spotV_len _) (by decide) (by omega) (by omega) (by omega)) rfl ?_
        refine x_y (v := .agg #[.int .i64 (((readsP p i).getD j default).s0), .int .i64 (((readsP p i).getD j default).s1), .int .i64 (((readsP p i).getD j default).s2)]) (y_loadN (vs := spotV ((readsP p i).getD j default)) rfl Try.isAgg144 Try.sizeOf144 (rdN (oslR .h) (fl_getN spotV_len (readsP p i) j (by first | omega | (simp only [List.length_set, List.length_take, List.length_drop]; done) | (simp only [List.length_set, List.length_take, List.length_drop]; omega))))) rfl ?_
        refine x_y (v := .int .i64 (makesP p ((readsP p i).getD j default))) (y_call (args := #[.agg #[.int .i64 (p.n0), .int .i64 (p.n1), .int .i64 (p.n2), .int .i64 (p.n3)], .agg #[.int .i64 (((readsP p i).getD j default).s0), .int .i64 (((readsP p i).getD j default).s1), .int .i64 (((readsP p i).getD j default).s2)]]) (v := .int .i64 (makesP p ((readsP p i).getD j default))) Try.call129 (ev2 rfl rfl) (fun w hs => rmakes_c p ((readsP p i).getD j default) hsm w)) rfl ?_
        refine x_y (v := .int .i64 (makesP p ((readsP p i).getD j default))) (y_assign rfl) rfl ?_
        refine x_nil ?_
        refine thenS_n ?_
        refine wpS_seq ?_
        refine wpS_region ?_
        refine s_y (v := .int .i64 (makesP p ((readsP p i).getD j default))) (y_move rfl) rfl ?_
        refine s_y (v := .bool (decide ((0 : Int) ≤ (makesP p ((readsP p i).getD j default))))) (y_geq (a := makesP p ((readsP p i).getD j default)) (b := 0) rfl rfl rfl) rfl ?_
        refine s_y (v := .bool (decide ((0 : Int) ≤ (makesP p ((readsP p i).getD j default))))) (y_move rfl) rfl ?_
        rcases Bool.eq_false_or_eq_true (decide ((0 : Int) ≤ (makesP p ((readsP p i).getD j default)))) with b11 | b11
        · -- decide ((0 : Int) ≤ (makesP p ((readsP p i).getD j default))) True
          have p11 := of_decide_eq_true b11
          refine s_gy (y_move rfl) rfl rfl rfl rfl (b' := decide ((0 : Int) ≤ (makesP p ((readsP p i).getD j default)))) rfl b11 ?_
          refine s_gy (y_move h1_9) rfl rfl rfl rfl (b' := decide ((0 : Int) ≤ (makesP p ((readsP p i).getD j default)))) rfl b11 ?_
          refine s_gy (y_len (ty' := 0) (at_ := #[]) rfl Try.underlying50) rfl rfl rfl rfl (b' := decide ((0 : Int) ≤ (makesP p ((readsP p i).getD j default)))) rfl b11 ?_
          refine s_gy (y_geq (a := makesP p ((readsP p i).getD j default)) (b := ((nd : Nat) : Int)) rfl rfl rfl) rfl rfl rfl rfl (b' := decide ((0 : Int) ≤ (makesP p ((readsP p i).getD j default)))) rfl b11 ?_
          refine s_gy (y_move rfl) rfl rfl rfl rfl (b' := decide ((0 : Int) ≤ (makesP p ((readsP p i).getD j default)))) rfl b11 ?_
          rcases Bool.eq_false_or_eq_true (decide ((((nd : Nat) : Int) : Int) ≤ (makesP p ((readsP p i).getD j default)))) with b12 | b12
          · -- decide ((((nd : Nat) : Int) : Int) ≤ (makesP p ((readsP p i).getD j default))) True
            have p12 := of_decide_eq_true b12
            refine s_no rfl rfl rfl rfl (b' := decide ((((nd : Nat) : Int) : Int) ≤ (makesP p ((readsP p i).getD j default)))) rfl b12 ?_
            refine s_no rfl rfl rfl rfl (b' := decide ((((nd : Nat) : Int) : Int) ≤ (makesP p ((readsP p i).getD j default)))) rfl b12 ?_
            refine s_no rfl rfl rfl rfl (b' := decide ((((nd : Nat) : Int) : Int) ≤ (makesP p ((readsP p i).getD j default)))) rfl b12 ?_
            refine s_no rfl rfl rfl rfl (b' := decide ((((nd : Nat) : Int) : Int) ≤ (makesP p ((readsP p i).getD j default)))) rfl b12 ?_
            refine s_no rfl rfl rfl rfl (b' := decide ((((nd : Nat) : Int) : Int) ≤ (makesP p ((readsP p i).getD j default)))) rfl b12 ?_
            refine s_gy (y_pickT (b := decide ((((nd : Nat) : Int) : Int) ≤ (makesP p ((readsP p i).getD j default)))) (v := .bool true) rfl b12 rfl) rfl rfl rfl rfl (b' := decide ((0 : Int) ≤ (makesP p ((readsP p i).getD j default)))) rfl b11 ?_
            refine s_y (v := .bool true) (y_pickT (b := decide ((0 : Int) ≤ (makesP p ((readsP p i).getD j default)))) (v := .bool true) rfl b11 rfl) rfl ?_
            refine wpL_nil ?_
            refine thenS_n ?_
            refine wpS_cond_t rfl ?_
            refine wpS_seq ?_
            refine wpS_region ?_
            refine s_y (v := .bool false) (y_assign rfl) rfl ?_
            refine wpL_nil ?_
            refine thenS_n ?_
            refine wpS_ret ?_
            refine blockS_r ?_
            refine thenS_r ?_
            refine thenS_r ?_
            refine blockS_r ?_
            refine thenS_r ?_
            refine fin1 (v := .bool false) (.inr rfl) (.nil) Try.results131 rfl ?_
            exact fun w' hs => ⟨congrArg (fun b : Bool => Ending.returned (.bool b)) ((rdy_hit (j := j) (by omega) (by first | exact open_hi (by omega) | (rw [open_at (by omega) (by assumption)]; rfl))).symm), hs⟩
          · -- decide ((((nd : Nat) : Int) : Int) ≤ (makesP p ((readsP p i).getD j default))) False
            have p12 := of_decide_eq_false b12
            refine s_gy (y_move h1_9) rfl rfl rfl rfl (b' := decide ((((nd : Nat) : Int) : Int) ≤ (makesP p ((readsP p i).getD j default)))) rfl b12 ?_
            refine s_gy (y_move rfl) rfl rfl rfl rfl (b' := decide ((((nd : Nat) : Int) : Int) ≤ (makesP p ((readsP p i).getD j default)))) rfl b12 ?_
            refine s_gy (y_idx (o := ((makesP p ((readsP p i).getD j default)).toNat) * 1) rfl rfl Try.underlying50 Try.sizeOf4 (oldR hrd) ((fl_len boolV_len _).trans (by first | omega | (simp only [List.length_set, List.length_take, List.length_drop]; done) | (simp only [List.length_set, List.length_take, List.length_drop]; omega))) (by decide) (by omega) (by omega) (by omega)) rfl rfl rfl rfl (b' := decide ((((nd : Nat) : Int) : Int) ≤ (makesP p ((readsP p i).getD j default)))) rfl b12 ?_
            refine s_gy (y_load1 (v := .bool ((dl.getD ((makesP p ((readsP p i).getD j default)).toNat) default))) rfl Try.isAgg4 (rd1 (k := ((makesP p ((readsP p i).getD j default)).toNat) * 1) (oldR hrd) (fl_get0 boolV_len dl ((makesP p ((readsP p i).getD j default)).toNat) (by first | omega | (simp only [List.length_set, List.length_take, List.length_drop]; done) | (simp only [List.length_set, List.length_take, List.length_drop]; omega)) rfl))) rfl rfl rfl rfl (b' := decide ((((nd : Nat) : Int) : Int) ≤ (makesP p ((readsP p i).getD j default)))) rfl b12 ?_
            refine s_gy (y_not (b := (dl.getD ((makesP p ((readsP p i).getD j default)).toNat) default)) rfl) rfl rfl rfl rfl (b' := decide ((((nd : Nat) : Int) : Int) ≤ (makesP p ((readsP p i).getD j default)))) rfl b12 ?_
            refine s_gy (y_pickF (b := decide ((((nd : Nat) : Int) : Int) ≤ (makesP p ((readsP p i).getD j default)))) (v := .bool (!(dl.getD ((makesP p ((readsP p i).getD j default)).toNat) default))) rfl b12 rfl) rfl rfl rfl rfl (b' := decide ((0 : Int) ≤ (makesP p ((readsP p i).getD j default)))) rfl b11 ?_
            refine s_y (v := .bool (!(dl.getD ((makesP p ((readsP p i).getD j default)).toNat) default))) (y_pickT (b := decide ((0 : Int) ≤ (makesP p ((readsP p i).getD j default)))) (v := .bool (!(dl.getD ((makesP p ((readsP p i).getD j default)).toNat) default))) rfl b11 rfl) rfl ?_
            refine wpL_nil ?_
            refine thenS_n ?_
            refine wpS_cond (t := !(dl.getD ((makesP p ((readsP p i).getD j default)).toNat) default)) rfl (fun b13 => ?_) (fun b13 => ?_)
            · -- !(dl.getD ((makesP p ((readsP p i).getD j default)).toNat) default) true
              have b14 : (dl.getD ((makesP p ((readsP p i).getD j default)).toNat) default) = false := by simpa using b13
              refine wpS_seq ?_
              refine wpS_region ?_
              refine s_y (v := .bool false) (y_assign rfl) rfl ?_
              refine wpL_nil ?_
              refine thenS_n ?_
              refine wpS_ret ?_
              refine blockS_r ?_
              refine thenS_r ?_
              refine thenS_r ?_
              refine blockS_r ?_
              refine thenS_r ?_
              refine fin1 (v := .bool false) (.inr rfl) (.nil) Try.results131 rfl ?_
              exact fun w' hs => ⟨congrArg (fun b : Bool => Ending.returned (.bool b)) ((rdy_hit (j := j) (by omega) (by first | exact open_hi (by omega) | (rw [open_at (by omega) (by assumption)]; rfl))).symm), hs⟩
            · -- !(dl.getD ((makesP p ((readsP p i).getD j default)).toNat) default) false
              have b15 : (dl.getD ((makesP p ((readsP p i).getD j default)).toNat) default) = true := by simpa using b13
              refine wpS_skip ?_
              refine blockS_n ?_
              refine thenS_n ?_
              refine wpS_region ?_
              refine s_y (v := .int .i64 (((j : Nat) : Int))) (y_move h8_9) rfl ?_
              refine s_y (v := .int .i64 ((((j + 1) : Nat) : Int))) (y_add (a := ((j : Nat) : Int)) (b := 1) (c := (((j + 1) : Nat) : Int)) rfl rfl (wI (by omega) (by omega) (by omega))) rfl ?_
              refine s_y (v := .int .i64 ((((j + 1) : Nat) : Int))) (y_assign rfl) rfl ?_
              refine wpL_nil ?_
              refine thenS_n ?_
              exact ⟨_, by omega, ⟨(j + 1), rfl, by omega, (noO_step (by assumption) (by first | exact open_lo (by omega) | (rw [open_at (by omega) (by assumption)]; rfl))), rfl, h1_9, h3_9, h7_9, rfl, .p .h (.p .h (.p .h .nil))⟩⟩
        · -- decide ((0 : Int) ≤ (makesP p ((readsP p i).getD j default))) False
          have p11 := of_decide_eq_false b11
          refine s_no rfl rfl rfl rfl (b' := decide ((0 : Int) ≤ (makesP p ((readsP p i).getD j default)))) rfl b11 ?_
          refine s_no rfl rfl rfl rfl (b' := decide ((0 : Int) ≤ (makesP p ((readsP p i).getD j default)))) rfl b11 ?_
          refine s_no rfl rfl rfl rfl (b' := decide ((0 : Int) ≤ (makesP p ((readsP p i).getD j default)))) rfl b11 ?_
          refine s_no rfl rfl rfl rfl (b' := decide ((0 : Int) ≤ (makesP p ((readsP p i).getD j default)))) rfl b11 ?_
          refine s_no rfl rfl rfl rfl (b' := decide ((0 : Int) ≤ (makesP p ((readsP p i).getD j default)))) rfl b11 ?_
          refine s_nu rfl rfl rfl rfl rfl ?_
          refine s_nu rfl rfl rfl rfl rfl ?_
          refine s_nu rfl rfl rfl rfl rfl ?_
          refine s_nu rfl rfl rfl rfl rfl ?_
          refine s_nu rfl rfl rfl rfl rfl ?_
          refine s_no rfl rfl rfl rfl (b' := decide ((0 : Int) ≤ (makesP p ((readsP p i).getD j default)))) rfl b11 ?_
          refine s_y (v := .bool false) (y_pickF (b := decide ((0 : Int) ≤ (makesP p ((readsP p i).getD j default)))) (v := .bool false) rfl b11 rfl) rfl ?_
          refine wpL_nil ?_
          refine thenS_n ?_
          refine wpS_cond_f rfl ?_
          refine wpS_skip ?_
          refine blockS_n ?_
          refine thenS_n ?_
          refine wpS_region ?_
          refine s_y (v := .int .i64 (((j : Nat) : Int))) (y_move h8_9) rfl ?_
          refine s_y (v := .int .i64 ((((j + 1) : Nat) : Int))) (y_add (a := ((j : Nat) : Int)) (b := 1) (c := (((j + 1) : Nat) : Int)) rfl rfl (wI (by omega) (by omega) (by omega))) rfl ?_
          refine s_y (v := .int .i64 ((((j + 1) : Nat) : Int))) (y_assign rfl) rfl ?_
          refine wpL_nil ?_
          refine thenS_n ?_
          exact ⟨_, by omega, ⟨(j + 1), rfl, by omega, (noO_step (by assumption) (by first | exact open_lo (by omega) | (rw [open_at (by omega) (by assumption)]; rfl))), rfl, h1_9, h3_9, h7_9, rfl, .p .h (.p .h (.p .h .nil))⟩⟩
      · -- decide (j < ((readsP p i).length)) false
        have p10 := of_decide_eq_false b10
        refine wpS_exit ?_
        refine thenS_x ?_
        refine thenS_x ?_
        refine blockS_h ?_
        refine thenS_n ?_
        refine wpS_seq ?_
        refine wpS_region ?_
        refine s_y (v := .bool true) (y_assign rfl) rfl ?_
        refine wpL_nil ?_
        refine thenS_n ?_
        refine wpS_ret ?_
        refine fin1 (v := .bool true) (.inr rfl) (.nil) Try.results131 rfl ?_
        exact fun w' hs => ⟨congrArg (fun b : Bool => Ending.returned (.bool b)) ((rdy_all (j := j) (by first | exact hsome | exact tk_some.trans (decide_eq_true (by omega))) (by omega) (by assumption)).symm), hs⟩

end Go.Proofs.Ytldkjjnjdjfipaa
