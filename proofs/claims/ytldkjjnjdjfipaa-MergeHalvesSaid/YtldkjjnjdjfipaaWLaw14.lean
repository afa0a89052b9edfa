/- Halves of two lists as one, walked. -/
import Derived.Test.YtldkjjnjdjfipaaP14
namespace Go.Proofs.Ytldkjjnjdjfipaa
open Go Go.RowKit
set_option linter.unusedVariables false
set_option linter.unusedSimpArgs false
set_option maxRecDepth 10000

theorem halves (sq : Bool) (la lb : List Rec) (na i k : Nat) (hn : la.length = na) (hi : i < na) (hk : k < (mgd sq la lb).length - na) : ahd sq (((mgd sq la lb).drop na).getD k default) (((mgd sq la lb).take na).getD i default) = false := by
  have hl := mgd_len sq la lb
  have h := msort_sorted sq [la, lb].flatten i (na + k) (by omega) (by have : ([la, lb] : List (List Rec)).flatten.length = la.length + lb.length := by simp
                                                                       omega)
  have e1 : ((mgd sq la lb).drop na).getD k default = (msort sq [la, lb].flatten).getD (na + k) default := by
    simp [List.getD_eq_getElem?_getD, mgd]
  have e2 : ((mgd sq la lb).take na).getD i default = (msort sq [la, lb].flatten).getD i default := by
    simp [List.getD_eq_getElem?_getD, List.getElem?_take, hi, mgd]
  rw [e1, e2]
  exact h
theorem halves_t (sq : Bool) (la lb : List Rec) (na i k : Nat) (hn : la.length = na) (hi : i < na) (hk : k < (mgd sq la lb).length - na) (hs : sq = true) : decide (b64 (before (((mgd sq la lb).drop na).getD k default) (((mgd sq la lb).take na).getD i default)) = 1) = false := by
  have h := halves sq la lb na i k hn hi hk
  unfold ahd at h
  rw [if_pos hs] at h
  rw [h]; decide
theorem halves_f (sq : Bool) (la lb : List Rec) (na i k : Nat) (hn : la.length = na) (hi : i < na) (hk : k < (mgd sq la lb).length - na) (hs : sq = false) : decide (b64 (ahead (((mgd sq la lb).drop na).getD k default) (((mgd sq la lb).take na).getD i default)) = 1) = false := by
  have h := halves sq la lb na i k hn hi hk
  unfold ahd at h
  rw [if_neg (by rw [hs]; decide)] at h
  rw [h]; decide

theorem halves_law (a b : Option Addr) (na ca nb cb : Nat) (la lb : List Rec) (sq : Bool) (w : World) (hna : la.length = na) (hnb : lb.length = nb) (hca : na ≤ ca) (hcb : nb ≤ cb) (hra : Rds w a (la.flatMap recV)) (hrb : Rds w b (lb.flatMap recV)) : Pure Try.prog 14 #[.slice a na ca, .slice b nb cb, .bool sq] w (.bool true) := by
  refine calls_S (n := 84) (σ0 := (upd (upd (upd fr0 0 (.slice a na ca)) 1 (.slice b nb cb)) 2 (.bool sq))) (D := []) (A := []) Try.func14 rfl Try.ntmps14 rfl (a3_fr _ _ _) (SH.start w) ?_
  refine wpS_seq ?_
  refine wpS_region ?_
  refine s_y (v := .bool false) (y_assign rfl) rfl ?_
  refine wpL_nil ?_
  refine thenS_n ?_
  refine wpS_seq ?_
  refine wpS_seq ?_
  refine wpS_region ?_
  refine s_y (v := .slice a na ca) (y_move rfl) rfl ?_
  refine s_y (v := .int .i64 (((na : Nat) : Int))) (y_len (ty' := 0) (at_ := #[]) rfl Try.underlying69) rfl ?_
  refine s_y (v := .bool (decide ((40 : Nat) < na))) (y_gtr (a := ((na : Nat) : Int)) (b := 40) (c := decide ((40 : Nat) < na)) rfl rfl (decide_eq_decide.2 (by omega))) rfl ?_
  refine s_y (v := .bool (decide ((40 : Nat) < na))) (y_move rfl) rfl ?_
  rcases Bool.eq_false_or_eq_true (decide ((40 : Nat) < na)) with b1 | b1
  · -- decide ((40 : Nat) < na) True
    have p1 := of_decide_eq_true b1
    refine s_no rfl rfl rfl rfl (b' := decide ((40 : Nat) < na)) rfl b1 ?_
    refine s_no rfl rfl rfl rfl (b' := decide ((40 : Nat) < na)) rfl b1 ?_
    refine s_no rfl rfl rfl rfl (b' := decide ((40 : Nat) < na)) rfl b1 ?_
    refine s_y (v := .bool true) (y_pickT (b := decide ((40 : Nat) < na)) (v := .bool true) rfl b1 rfl) rfl ?_
    refine wpL_nil ?_
    refine thenS_n ?_
    refine wpS_cond_t rfl ?_
    refine wpS_seq ?_
    refine wpS_region ?_
    refine s_y (v := .bool true) (y_call (args := #[]) (v := .bool true) Try.call72 ev0 (fun w hs => awake14_c w)) rfl ?_
    refine s_y (v := .bool true) (y_assign rfl) rfl ?_
    refine wpL_nil ?_
    refine thenS_n ?_
    refine wpS_ret ?_
    refine thenS_r ?_
    refine fin1 (v := .bool true) (.inr rfl) (.nil) Try.results14 rfl ?_
    exact fun w' hs => ⟨rfl, hs⟩
  · -- decide ((40 : Nat) < na) False
    have p1 := of_decide_eq_false b1
    refine s_gy (y_move rfl) rfl rfl rfl rfl (b' := decide ((40 : Nat) < na)) rfl b1 ?_
    refine s_gy (y_len (ty' := 0) (at_ := #[]) rfl Try.underlying69) rfl rfl rfl rfl (b' := decide ((40 : Nat) < na)) rfl b1 ?_
    refine s_gy (y_gtr (a := ((nb : Nat) : Int)) (b := 40) (c := decide ((40 : Nat) < nb)) rfl rfl (decide_eq_decide.2 (by omega))) rfl rfl rfl rfl (b' := decide ((40 : Nat) < na)) rfl b1 ?_
    refine s_y (v := .bool (decide ((40 : Nat) < nb))) (y_pickF (b := decide ((40 : Nat) < na)) (v := .bool (decide ((40 : Nat) < nb))) rfl b1 rfl) rfl ?_
    refine wpL_nil ?_
    refine thenS_n ?_
    refine wpS_cond (t := decide ((40 : Nat) < nb)) rfl (fun b2 => ?_) (fun b2 => ?_)
    · -- decide ((40 : Nat) < nb) true
      have p2 := of_decide_eq_true b2
      refine wpS_seq ?_
      refine wpS_region ?_
      refine s_y (v := .bool true) (y_call (args := #[]) (v := .bool true) Try.call72 ev0 (fun w hs => awake14_c w)) rfl ?_
      refine s_y (v := .bool true) (y_assign rfl) rfl ?_
      refine wpL_nil ?_
      refine thenS_n ?_
      refine wpS_ret ?_
      refine thenS_r ?_
      refine fin1 (v := .bool true) (.inr rfl) (.nil) Try.results14 rfl ?_
      exact fun w' hs => ⟨rfl, hs⟩
    · -- decide ((40 : Nat) < nb) false
      have p2 := of_decide_eq_false b2
      refine wpS_skip ?_
      refine thenS_n ?_
      refine wpS_seq ?_
      refine wpS_region ?_
      refine s_y (v := .slice a na ca) (y_move rfl) rfl ?_
      refine s_y (v := .slice b nb cb) (y_move rfl) rfl ?_
      refine s_y (v := .bool sq) (y_move rfl) rfl ?_
      refine s_e rfl ?_
      refine e_call (f := 73) (args := #[.slice a na ca, .slice b nb cb, .bool sq]) (X := Option Addr × Nat) (A := []) (M := []) (V := fun x : Option Addr × Nat => .tuple #[.slice x.1 na na, .slice (subA x.1 x.2 na 4) ((mgd sq la lb).length - na) (x.2 - na)]) (A' := fun x => [slR recV 4 23 (mgd sq la lb) x]) (C := fun x => (mgd sq la lb).length ≤ x.2) Try.call73 (ev3 rfl rfl rfl) (.nil) (fun w hs => split_c a b na ca nb cb la lb sq w hna hnb ((oldR hra) w hs) ((oldR hrb) w hs) (by omega) (by omega)) ?_
      rintro ⟨a_3, c_4⟩ hc5; replace hc5 : (mgd sq la lb).length ≤ c_4 := hc5
      have hlhc5 : (mgd sq la lb).length = la.length + lb.length := mgd_len _ _ _
      try simp only [List.length_cons, List.length_nil] at hlhc5
      refine s_y (v := .tuple #[.slice a_3 na na, .slice (subA a_3 c_4 na 4) ((mgd sq la lb).length - na) (c_4 - na)]) (y_move rfl) rfl ?_
      refine s_y (v := .slice a_3 na na) (y_extract (v := .slice a_3 na na) rfl rfl) rfl ?_
      refine s_y (v := .slice (subA a_3 c_4 na 4) ((mgd sq la lb).length - na) (c_4 - na)) (y_extract (v := .slice (subA a_3 c_4 na 4) ((mgd sq la lb).length - na) (c_4 - na)) rfl rfl) rfl ?_
      refine s_y (v := .slice a_3 na na) (y_assign rfl) rfl ?_
      refine s_y (v := .slice (subA a_3 c_4 na 4) ((mgd sq la lb).length - na) (c_4 - na)) (y_assign rfl) rfl ?_
      refine wpL_nil ?_
      refine thenS_n ?_
      refine wpS_seq ?_
      refine wpS_seq ?_
      refine wpS_region ?_
      refine s_y (v := .bool true) (y_call (args := #[]) (v := .bool true) Try.call72 ev0 (fun w hs => awake14_c w)) rfl ?_
      refine s_y (v := .bool false) (y_notK (b := true) (c := false) rfl rfl) rfl ?_
      refine s_y (v := .bool false) (y_move rfl) rfl ?_
      refine s_gy (y_move rfl) rfl rfl rfl rfl rfl rfl ?_
      refine s_gy (y_len (ty' := 0) (at_ := #[]) rfl Try.underlying69) rfl rfl rfl rfl rfl rfl ?_
      refine s_gy (y_move rfl) rfl rfl rfl rfl rfl rfl ?_
      refine s_gy (y_len (ty' := 0) (at_ := #[]) rfl Try.underlying69) rfl rfl rfl rfl rfl rfl ?_
      refine s_gy (y_neq (a := ((na : Nat) : Int)) (b := ((na : Nat) : Int)) (c := decide (na ≠ na)) rfl rfl (decide_eq_decide.2 (by omega))) rfl rfl rfl rfl rfl rfl ?_
      refine s_y (v := .bool (decide (na ≠ na))) (y_pickF (v := .bool (decide (na ≠ na))) rfl rfl rfl) rfl ?_
      refine s_y (v := .bool (decide (na ≠ na))) (y_move rfl) rfl ?_
      refine s_gy (y_move rfl) rfl rfl rfl rfl (b' := decide (na ≠ na)) rfl (by simp) ?_
      refine s_gy (y_len (ty' := 0) (at_ := #[]) rfl Try.underlying69) rfl rfl rfl rfl (b' := decide (na ≠ na)) rfl (by simp) ?_
      refine s_gy (y_move rfl) rfl rfl rfl rfl (b' := decide (na ≠ na)) rfl (by simp) ?_
      refine s_gy (y_len (ty' := 0) (at_ := #[]) rfl Try.underlying69) rfl rfl rfl rfl (b' := decide (na ≠ na)) rfl (by simp) ?_
      refine s_gy (y_neq (a := (((mgd sq la lb).length - na : Nat) : Int)) (b := ((nb : Nat) : Int)) (c := decide (((mgd sq la lb).length - na) ≠ nb)) rfl rfl (decide_eq_decide.2 (by omega))) rfl rfl rfl rfl (b' := decide (na ≠ na)) rfl (by simp) ?_
      refine s_y (v := .bool (decide (((mgd sq la lb).length - na) ≠ nb))) (y_pickF (b := decide (na ≠ na)) (v := .bool (decide (((mgd sq la lb).length - na) ≠ nb))) rfl (by simp) rfl) rfl ?_
      refine wpL_nil ?_
      refine thenS_n ?_
      refine wpS_cond_F (t := decide (((mgd sq la lb).length - na) ≠ nb)) rfl (decide_eq_false (by omega)) ?_
      refine wpS_skip ?_
      refine thenS_n ?_
      refine wpS_seq ?_
      refine wpS_seq ?_
      refine wpS_region ?_
      refine s_y (v := .int .i64 0) (y_assign rfl) rfl ?_
      refine wpL_nil ?_
      refine thenS_n ?_
      refine wpS_block ?_
      refine wpS_loop (fun m ds σ L => ∃ i : Nat, m = na - i ∧ (i ≤ na) ∧ ds = [] ∧ σ 2 = .bool sq ∧ σ 7 = .slice a_3 na na ∧ σ 8 = .slice (subA a_3 c_4 na 4) ((mgd sq la lb).length - na) (c_4 - na) ∧ σ 9 = .int .i64 (((i : Nat) : Int)) ∧ Ent L [osl a_3 c_4 ((mgd sq la lb).length) 4 23 ((mgd sq la lb).flatMap recV)]) (m0 := na - 0) ⟨0, rfl, by omega, rfl, rfl, rfl, rfl, rfl, .p .h .nil⟩ ?_
      rintro m ds σ L ⟨i, hm_7, hf0_7, rfl, h2_7, h7_7, h8_7, h9_7, hE_7⟩
      refine wpS_ent hE_7 ?_; clear hE_7
      refine wpS_seq ?_
      refine wpS_seq ?_
      refine wpS_region ?_
      refine s_y (v := .int .i64 (((i : Nat) : Int))) (y_move h9_7) rfl ?_
      refine s_y (v := .slice a_3 na na) (y_move h7_7) rfl ?_
      refine s_y (v := .int .i64 (((na : Nat) : Int))) (y_len (ty' := 0) (at_ := #[]) rfl Try.underlying69) rfl ?_
      refine s_y (v := .bool (decide (i < na))) (y_lss (a := ((i : Nat) : Int)) (b := ((na : Nat) : Int)) (c := decide (i < na)) rfl rfl (decide_eq_decide.2 (by omega))) rfl ?_
      refine wpL_nil ?_
      refine thenS_n ?_
      refine wpS_cond (t := decide (i < na)) rfl (fun b8 => ?_) (fun b8 => ?_)
      · -- decide (i < na) true
        have p8 := of_decide_eq_true b8
        refine wpS_skip ?_
        refine thenS_n ?_
        refine wpS_seq ?_
        refine wpS_block ?_
        refine wpS_seq ?_
        refine wpS_region ?_
        refine s_y (v := .int .i64 0) (y_assign rfl) rfl ?_
        refine wpL_nil ?_
        refine thenS_n ?_
        refine wpS_block ?_
        refine wpS_loop (fun m ds σ L => ∃ k : Nat, m = nb - k ∧ (k ≤ nb) ∧ ds = [] ∧ σ 2 = .bool sq ∧ σ 7 = .slice a_3 na na ∧ σ 8 = .slice (subA a_3 c_4 na 4) ((mgd sq la lb).length - na) (c_4 - na) ∧ σ 9 = .int .i64 (((i : Nat) : Int)) ∧ σ 10 = .int .i64 (((k : Nat) : Int)) ∧ Ent L [osl a_3 c_4 ((mgd sq la lb).length) 4 23 ((mgd sq la lb).flatMap recV)]) (m0 := nb - 0) ⟨0, rfl, by omega, rfl, h2_7, h7_7, h8_7, h9_7, rfl, .p .h .nil⟩ ?_
        rintro m ds σ L ⟨k, hm_9, hf0_9, rfl, h2_9, h7_9, h8_9, h9_9, h10_9, hE_9⟩
        refine wpS_ent hE_9 ?_; clear hE_9
        refine wpS_seq ?_
        refine wpS_seq ?_
        refine wpS_region ?_
        refine s_y (v := .int .i64 (((k : Nat) : Int))) (y_move h10_9) rfl ?_
        refine s_y (v := .slice (subA a_3 c_4 na 4) ((mgd sq la lb).length - na) (c_4 - na)) (y_move h8_9) rfl ?_
        refine s_y (v := .int .i64 ((((mgd sq la lb).length - na : Nat) : Int))) (y_len (ty' := 0) (at_ := #[]) rfl Try.underlying69) rfl ?_
        refine s_y (v := .bool (decide (k < ((mgd sq la lb).length - na)))) (y_lss (a := ((k : Nat) : Int)) (b := (((mgd sq la lb).length - na : Nat) : Int)) (c := decide (k < ((mgd sq la lb).length - na))) rfl rfl (decide_eq_decide.2 (by omega))) rfl ?_
        refine wpL_nil ?_
        refine thenS_n ?_
        refine wpS_cond (t := decide (k < ((mgd sq la lb).length - na))) rfl (fun b10 => ?_) (fun b10 => ?_)
        · -- decide (k < ((mgd sq la lb).length - na)) true
          have p10 := of_decide_eq_true b10
          refine wpS_skip ?_
          refine thenS_n ?_
          refine wpS_seq ?_
          refine wpS_block ?_
          refine wpS_seq ?_
          refine wpS_lex (by kernel_rfl) (by kernel_rfl) ?_
          refine x_y (v := .bool sq) (y_move h2_9) rfl ?_
          refine x_y (v := .bool sq) (y_move rfl) rfl ?_
          rcases Bool.eq_false_or_eq_true (sq) with b11 | b11
          · -- sq True
            refine x_gy (y_move h8_9) rfl rfl rfl rfl (b' := sq) rfl b11 ?_
            refine x_gy (y_move h10_9) rfl rfl rfl rfl (b' := sq) rfl b11 ?_
            refine x_gy (y_idx (o := k * 4) rfl rfl Try.underlying69 Try.sizeOf23 (rdsD recV_len na hc5 (oslR .h)) ((fl_len recV_len _).trans (by first | omega | (simp only [List.length_set, List.length_take, List.length_drop]; done) | (simp only [List.length_set, List.length_take, List.length_drop]; omega))) (by decide) (by omega) (by omega) (by omega)) rfl rfl rfl rfl (b' := sq) rfl b11 ?_
            refine x_gy (y_loadN (vs := recV (((mgd sq la lb).drop na).getD k default)) rfl Try.isAgg23 Try.sizeOf23 (rdN (rdsD recV_len na hc5 (oslR .h)) (fl_getN recV_len ((mgd sq la lb).drop na) k (by first | omega | (simp only [List.length_set, List.length_take, List.length_drop]; done) | (simp only [List.length_set, List.length_take, List.length_drop]; omega))))) rfl rfl rfl rfl (b' := sq) rfl b11 ?_
            refine x_gy (y_move h7_9) rfl rfl rfl rfl (b' := sq) rfl b11 ?_
            refine x_gy (y_move h9_9) rfl rfl rfl rfl (b' := sq) rfl b11 ?_
            refine x_gy (y_idx (o := i * 4) rfl rfl Try.underlying69 Try.sizeOf23 (rdsT recV_len na (oslR .h)) ((fl_len recV_len _).trans (by first | omega | (simp only [List.length_set, List.length_take, List.length_drop]; done) | (simp only [List.length_set, List.length_take, List.length_drop]; omega))) (by decide) (by omega) (by omega) (by omega)) rfl rfl rfl rfl (b' := sq) rfl b11 ?_
            refine x_gy (y_loadN (vs := recV (((mgd sq la lb).take na).getD i default)) rfl Try.isAgg23 Try.sizeOf23 (rdN (rdsT recV_len na (oslR .h)) (fl_getN recV_len ((mgd sq la lb).take na) i (by first | omega | (simp only [List.length_set, List.length_take, List.length_drop]; done) | (simp only [List.length_set, List.length_take, List.length_drop]; omega))))) rfl rfl rfl rfl (b' := sq) rfl b11 ?_
            refine x_gy (y_call (args := #[.agg #[.bool ((((mgd sq la lb).drop na).getD k default).dead), .int .i64 (((((mgd sq la lb).drop na).getD k default).key).toInt), .int .i64 (((((mgd sq la lb).drop na).getD k default).value).toInt), .int .i64 (((((mgd sq la lb).drop na).getD k default).seq).toInt)], .agg #[.bool ((((mgd sq la lb).take na).getD i default).dead), .int .i64 (((((mgd sq la lb).take na).getD i default).key).toInt), .int .i64 (((((mgd sq la lb).take na).getD i default).value).toInt), .int .i64 (((((mgd sq la lb).take na).getD i default).seq).toInt)]]) (v := .int .u64 ((b64 (before (((mgd sq la lb).drop na).getD k default) (((mgd sq la lb).take na).getD i default))).toNat)) Try.call45 (ev2 rfl rfl) (fun w hs => refbefore_c (((mgd sq la lb).drop na).getD k default) (((mgd sq la lb).take na).getD i default) w)) rfl rfl rfl rfl (b' := sq) rfl b11 ?_
            refine x_gy (y_eql (a := (b64 (before (((mgd sq la lb).drop na).getD k default) (((mgd sq la lb).take na).getD i default))).toNat) (b := 1) (c := decide ((b64 (before (((mgd sq la lb).drop na).getD k default) (((mgd sq la lb).take na).getD i default))) = 1)) rfl rfl (u_eqlL _ 1 (by decide))) rfl rfl rfl rfl (b' := sq) rfl b11 ?_
            refine x_y (v := .bool (decide ((b64 (before (((mgd sq la lb).drop na).getD k default) (((mgd sq la lb).take na).getD i default))) = 1))) (y_pickT (b := sq) (v := .bool (decide ((b64 (before (((mgd sq la lb).drop na).getD k default) (((mgd sq la lb).take na).getD i default))) = 1))) rfl b11 rfl) rfl ?_
            refine x_y (v := .bool (decide ((b64 (before (((mgd sq la lb).drop na).getD k default) (((mgd sq la lb).take na).getD i default))) = 1))) (y_move rfl) rfl ?_
            refine x_gy (y_move h2_9) rfl rfl rfl rfl (b' := decide ((b64 (before (((mgd sq la lb).drop na).getD k default) (((mgd sq la lb).take na).getD i default))) = 1)) rfl (halves_t sq la lb na i k hna (by omega) (by omega) b11) ?_
            refine x_gy (y_not (b := sq) rfl) rfl rfl rfl rfl (b' := decide ((b64 (before (((mgd sq la lb).drop na).getD k default) (((mgd sq la lb).take na).getD i default))) = 1)) rfl (halves_t sq la lb na i k hna (by omega) (by omega) b11) ?_
            refine x_gy (y_move rfl) rfl rfl rfl rfl (b' := decide ((b64 (before (((mgd sq la lb).drop na).getD k default) (((mgd sq la lb).take na).getD i default))) = 1)) rfl (halves_t sq la lb na i k hna (by omega) (by omega) b11) ?_
            refine x_no rfl rfl rfl rfl (b' := !sq) rfl (congrArg not b11) ?_
            refine x_no rfl rfl rfl rfl (b' := !sq) rfl (congrArg not b11) ?_
            refine x_no rfl rfl rfl rfl (b' := !sq) rfl (congrArg not b11) ?_
            refine x_no rfl rfl rfl rfl (b' := !sq) rfl (congrArg not b11) ?_
            refine x_no rfl rfl rfl rfl (b' := !sq) rfl (congrArg not b11) ?_
            refine x_no rfl rfl rfl rfl (b' := !sq) rfl (congrArg not b11) ?_
            refine x_no rfl rfl rfl rfl (b' := !sq) rfl (congrArg not b11) ?_
            refine x_no rfl rfl rfl rfl (b' := !sq) rfl (congrArg not b11) ?_
            refine x_no rfl rfl rfl rfl (b' := !sq) rfl (congrArg not b11) ?_
            refine x_no rfl rfl rfl rfl (b' := !sq) rfl (congrArg not b11) ?_
            refine x_gy (y_pickF (b := !sq) (v := .bool false) rfl (congrArg not b11) rfl) rfl rfl rfl rfl (b' := decide ((b64 (before (((mgd sq la lb).drop na).getD k default) (((mgd sq la lb).take na).getD i default))) = 1)) rfl (halves_t sq la lb na i k hna (by omega) (by omega) b11) ?_
            refine x_y (v := .bool false) (y_pickF (b := decide ((b64 (before (((mgd sq la lb).drop na).getD k default) (((mgd sq la lb).take na).getD i default))) = 1)) (v := .bool false) rfl (halves_t sq la lb na i k hna (by omega) (by omega) b11) rfl) rfl ?_
            refine x_nil ?_
            refine thenS_n ?_
            refine wpS_cond_f rfl ?_
            refine wpS_skip ?_
            refine blockS_n ?_
            refine thenS_n ?_
            refine wpS_region ?_
            refine s_y (v := .int .i64 (((k : Nat) : Int))) (y_move h10_9) rfl ?_
            refine s_y (v := .int .i64 ((((k + 1) : Nat) : Int))) (y_add (a := ((k : Nat) : Int)) (b := 1) (c := (((k + 1) : Nat) : Int)) rfl rfl (wI (by omega) (by omega) (by omega))) rfl ?_
            refine s_y (v := .int .i64 ((((k + 1) : Nat) : Int))) (y_assign rfl) rfl ?_
            refine wpL_nil ?_
            refine thenS_n ?_
            exact ⟨_, by omega, ⟨(k + 1), rfl, by omega, rfl, h2_9, h7_9, h8_9, h9_9, rfl, .p .h .nil⟩⟩
          · -- sq False
            refine x_no rfl rfl rfl rfl (b' := sq) rfl b11 ?_
            refine x_no rfl rfl rfl rfl (b' := sq) rfl b11 ?_
            refine x_no rfl rfl rfl rfl (b' := sq) rfl b11 ?_
            refine x_no rfl rfl rfl rfl (b' := sq) rfl b11 ?_
            refine x_no rfl rfl rfl rfl (b' := sq) rfl b11 ?_
            refine x_no rfl rfl rfl rfl (b' := sq) rfl b11 ?_
            refine x_no rfl rfl rfl rfl (b' := sq) rfl b11 ?_
            refine x_no rfl rfl rfl rfl (b' := sq) rfl b11 ?_
            refine x_no rfl rfl rfl rfl (b' := sq) rfl b11 ?_
            refine x_no rfl rfl rfl rfl (b' := sq) rfl b11 ?_
            refine x_y (v := .bool false) (y_pickF (b := sq) (v := .bool false) rfl b11 rfl) rfl ?_
            refine x_y (v := .bool false) (y_move rfl) rfl ?_
            refine x_gy (y_move h2_9) rfl rfl rfl rfl rfl rfl ?_
            refine x_gy (y_not (b := sq) rfl) rfl rfl rfl rfl rfl rfl ?_
            refine x_gy (y_move rfl) rfl rfl rfl rfl rfl rfl ?_
            refine x_gy (y_move h8_9) rfl rfl rfl rfl (b' := !sq) rfl (congrArg not b11) ?_
            refine x_gy (y_move h10_9) rfl rfl rfl rfl (b' := !sq) rfl (congrArg not b11) ?_
            refine x_gy (y_idx (o := k * 4) rfl rfl Try.underlying69 Try.sizeOf23 (rdsD recV_len na hc5 (oslR .h)) ((fl_len recV_len _).trans (by first | omega | (simp only [List.length_set, List.length_take, List.length_drop]; done) | (simp only [List.length_set, List.length_take, List.length_drop]; omega))) (by decide) (by omega) (by omega) (by omega)) rfl rfl rfl rfl (b' := !sq) rfl (congrArg not b11) ?_
            refine x_gy (y_loadN (vs := recV (((mgd sq la lb).drop na).getD k default)) rfl Try.isAgg23 Try.sizeOf23 (rdN (rdsD recV_len na hc5 (oslR .h)) (fl_getN recV_len ((mgd sq la lb).drop na) k (by first | omega | (simp only [List.length_set, List.length_take, List.length_drop]; done) | (simp only [List.length_set, List.length_take, List.length_drop]; omega))))) rfl rfl rfl rfl (b' := !sq) rfl (congrArg not b11) ?_
            refine x_gy (y_move h7_9) rfl rfl rfl rfl (b' := !sq) rfl (congrArg not b11) ?_
            refine x_gy (y_move h9_9) rfl rfl rfl rfl (b' := !sq) rfl (congrArg not b11) ?_
            refine x_gy (y_idx (o := i * 4) rfl rfl Try.underlying69 Try.sizeOf23 (rdsT recV_len na (oslR .h)) ((fl_len recV_len _).trans (by first | omega | (simp only [List.length_set, List.length_take, List.length_drop]; done) | (simp only [List.length_set, List.length_take, List.length_drop]; omega))) (by decide) (by omega) (by omega) (by omega)) rfl rfl rfl rfl (b' := !sq) rfl (congrArg not b11) ?_
            refine x_gy (y_loadN (vs := recV (((mgd sq la lb).take na).getD i default)) rfl Try.isAgg23 Try.sizeOf23 (rdN (rdsT recV_len na (oslR .h)) (fl_getN recV_len ((mgd sq la lb).take na) i (by first | omega | (simp only [List.length_set, List.length_take, List.length_drop]; done) | (simp only [List.length_set, List.length_take, List.length_drop]; omega))))) rfl rfl rfl rfl (b' := !sq) rfl (congrArg not b11) ?_
            refine x_gy (y_call (args := #[.agg #[.bool ((((mgd sq la lb).drop na).getD k default).dead), .int .i64 (((((mgd sq la lb).drop na).getD k default).key).toInt), .int .i64 (((((mgd sq la lb).drop na).getD k default).value).toInt), .int .i64 (((((mgd sq la lb).drop na).getD k default).seq).toInt)], .agg #[.bool ((((mgd sq la lb).take na).getD i default).dead), .int .i64 (((((mgd sq la lb).take na).getD i default).key).toInt), .int .i64 (((((mgd sq la lb).take na).getD i default).value).toInt), .int .i64 (((((mgd sq la lb).take na).getD i default).seq).toInt)]]) (v := .int .u64 ((b64 (ahead (((mgd sq la lb).drop na).getD k default) (((mgd sq la lb).take na).getD i default))).toNat)) Try.call46 (ev2 rfl rfl) (fun w hs => refahead_c (((mgd sq la lb).drop na).getD k default) (((mgd sq la lb).take na).getD i default) w)) rfl rfl rfl rfl (b' := !sq) rfl (congrArg not b11) ?_
            refine x_gy (y_eql (a := (b64 (ahead (((mgd sq la lb).drop na).getD k default) (((mgd sq la lb).take na).getD i default))).toNat) (b := 1) (c := decide ((b64 (ahead (((mgd sq la lb).drop na).getD k default) (((mgd sq la lb).take na).getD i default))) = 1)) rfl rfl (u_eqlL _ 1 (by decide))) rfl rfl rfl rfl (b' := !sq) rfl (congrArg not b11) ?_
            refine x_gy (y_pickT (b := !sq) (v := .bool (decide ((b64 (ahead (((mgd sq la lb).drop na).getD k default) (((mgd sq la lb).take na).getD i default))) = 1))) rfl (congrArg not b11) rfl) rfl rfl rfl rfl rfl rfl ?_
            refine x_y (v := .bool (decide ((b64 (ahead (((mgd sq la lb).drop na).getD k default) (((mgd sq la lb).take na).getD i default))) = 1))) (y_pickF (v := .bool (decide ((b64 (ahead (((mgd sq la lb).drop na).getD k default) (((mgd sq la lb).take na).getD i default))) = 1))) rfl rfl rfl) rfl ?_
            refine x_nil ?_
            refine thenS_n ?_
            refine wpS_cond_F (t := decide ((b64 (ahead (((mgd sq la lb).drop na).getD k default) (((mgd sq la lb).take na).getD i default))) = 1)) rfl (halves_f sq la lb na i k hna (by omega) (by omega) b11) ?_
            refine wpS_skip ?_
            refine blockS_n ?_
            refine thenS_n ?_
            refine wpS_region ?_
            refine s_y (v := .int .i64 (((k : Nat) : Int))) (y_move h10_9) rfl ?_
            refine s_y (v := .int .i64 ((((k + 1) : Nat) : Int))) (y_add (a := ((k : Nat) : Int)) (b := 1) (c := (((k + 1) : Nat) : Int)) rfl rfl (wI (by omega) (by omega) (by omega))) rfl ?_
            refine s_y (v := .int .i64 ((((k + 1) : Nat) : Int))) (y_assign rfl) rfl ?_
            refine wpL_nil ?_
            refine thenS_n ?_
            exact ⟨_, by omega, ⟨(k + 1), rfl, by omega, rfl, h2_9, h7_9, h8_9, h9_9, rfl, .p .h .nil⟩⟩
        · -- decide (k < ((mgd sq la lb).length - na)) false
          have p10 := of_decide_eq_false b10
          refine wpS_exit ?_
          refine thenS_x ?_
          refine thenS_x ?_
          refine blockS_h ?_
          refine blockS_n ?_
          refine thenS_n ?_
          refine wpS_region ?_
          refine s_y (v := .int .i64 (((i : Nat) : Int))) (y_move h9_9) rfl ?_
          refine s_y (v := .int .i64 ((((i + 1) : Nat) : Int))) (y_add (a := ((i : Nat) : Int)) (b := 1) (c := (((i + 1) : Nat) : Int)) rfl rfl (wI (by omega) (by omega) (by omega))) rfl ?_
          refine s_y (v := .int .i64 ((((i + 1) : Nat) : Int))) (y_assign rfl) rfl ?_
          refine wpL_nil ?_
          refine thenS_n ?_
          exact ⟨_, by omega, ⟨(i + 1), rfl, by omega, rfl, h2_9, h7_9, h8_9, rfl, .p .h .nil⟩⟩
      · -- decide (i < na) false
        have p8 := of_decide_eq_false b8
        refine wpS_exit ?_
        refine thenS_x ?_
        refine thenS_x ?_
        refine blockS_h ?_
        refine thenS_n ?_
        refine wpS_seq ?_
        refine wpS_region ?_
        refine s_y (v := .bool true) (y_assign rfl) rfl ?_
        refine wpL_nil ?_
        refine thenS_n ?_
        refine wpS_ret ?_
        refine fin1 (v := .bool true) (.inr rfl) (.nil) Try.results14 rfl ?_
        exact fun w' hs => ⟨rfl, hs⟩

end Go.Proofs.Ytldkjjnjdjfipaa
