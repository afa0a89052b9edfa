/- Comparing lists of records, and the order of the reference; walked. -/
import Derived.Test.YtldkjjnjdjfipaaWMrg5
namespace Go.Proofs.Ytldkjjnjdjfipaa
open Go Go.RowKit
set_option linter.unusedVariables false
set_option linter.unusedSimpArgs false
set_option maxRecDepth 10000

theorem plain1_c (a b : Rec) (w : World) : Pure Try.prog 171 #[.agg #[.bool (a.dead), .int .i64 (a.key.toInt), .int .i64 (a.value.toInt), .int .i64 (a.seq.toInt)], .agg #[.bool (b.dead), .int .i64 (b.key.toInt), .int .i64 (b.value.toInt), .int .i64 (b.seq.toInt)]] w (.bool ((decide (a = b)))) := by
  refine calls_S (n := 8) (σ0 := (upd (upd fr0 0 (.agg #[.bool (a.dead), .int .i64 (a.key.toInt), .int .i64 (a.value.toInt), .int .i64 (a.seq.toInt)])) 1 (.agg #[.bool (b.dead), .int .i64 (b.key.toInt), .int .i64 (b.value.toInt), .int .i64 (b.seq.toInt)]))) (D := []) (A := []) Try.func171 rfl Try.ntmps171 rfl (a2_fr _ _) (SH.start w) ?_
  refine wpS_seq ?_
  refine wpS_region ?_
  refine s_e rfl ?_
  refine e_box (v := .agg #[.bool (a.dead), .int .i64 (a.key.toInt), .int .i64 (a.value.toInt), .int .i64 (a.seq.toInt)]) (l := [.bool (a.dead), .int .i64 (a.key.toInt), .int .i64 (a.value.toInt), .int .i64 (a.seq.toInt)]) rfl rfl ?_
  intro b_1
  refine s_e rfl ?_
  refine e_box (v := .agg #[.bool (b.dead), .int .i64 (b.key.toInt), .int .i64 (b.value.toInt), .int .i64 (b.seq.toInt)]) (l := [.bool (b.dead), .int .i64 (b.key.toInt), .int .i64 (b.value.toInt), .int .i64 (b.seq.toInt)]) rfl rfl ?_
  intro b_2
  refine s_y (v := .bool false) (y_assign rfl) rfl ?_
  refine wpL_nil ?_
  refine thenS_n ?_
  refine wpS_seq ?_
  refine wpS_region ?_
  refine s_y (v := .agg #[.bool (a.dead), .int .i64 (a.key.toInt), .int .i64 (a.value.toInt), .int .i64 (a.seq.toInt)]) (y_loadN (vs := [.bool (a.dead), .int .i64 (a.key.toInt), .int .i64 (a.value.toInt), .int .i64 (a.seq.toInt)]) rfl Try.isAgg23 Try.sizeOf23 (ownN (.t .h) rfl)) rfl ?_
  refine s_y (v := .agg #[.bool (b.dead), .int .i64 (b.key.toInt), .int .i64 (b.value.toInt), .int .i64 (b.seq.toInt)]) (y_loadN (vs := [.bool (b.dead), .int .i64 (b.key.toInt), .int .i64 (b.value.toInt), .int .i64 (b.seq.toInt)]) rfl Try.isAgg23 Try.sizeOf23 (ownN .h rfl)) rfl ?_
  refine s_y (v := .bool (decide (a = b))) (y_eqlS (a := #[.bool (a.dead), .int .i64 (a.key.toInt), .int .i64 (a.value.toInt), .int .i64 (a.seq.toInt)]) (b := #[.bool (b.dead), .int .i64 (b.key.toInt), .int .i64 (b.value.toInt), .int .i64 (b.seq.toInt)]) (c := decide (a = b)) Try.eqGuardType23 (fun w => equalR w a b) rfl rfl) rfl ?_
  refine s_y (v := .bool (decide (a = b))) (y_assign rfl) rfl ?_
  refine wpL_nil ?_
  refine thenS_n ?_
  refine wpS_ret ?_
  refine fin1 (v := .bool (decide (a = b))) (.inr rfl) .nil Try.results171 rfl ?_
  exact fun w' hs => ⟨rfl, hs⟩

theorem refahd_c (a b : Rec) (q : Bool) (w : World) : Pure Try.prog 172 #[.agg #[.bool (a.dead), .int .i64 (a.key.toInt), .int .i64 (a.value.toInt), .int .i64 (a.seq.toInt)], .agg #[.bool (b.dead), .int .i64 (b.key.toInt), .int .i64 (b.value.toInt), .int .i64 (b.seq.toInt)], .bool q] w (.bool ((ahd q a b))) := by
  refine calls_S (n := 16) (σ0 := (upd (upd (upd fr0 0 (.agg #[.bool (a.dead), .int .i64 (a.key.toInt), .int .i64 (a.value.toInt), .int .i64 (a.seq.toInt)])) 1 (.agg #[.bool (b.dead), .int .i64 (b.key.toInt), .int .i64 (b.value.toInt), .int .i64 (b.seq.toInt)])) 2 (.bool q))) (D := []) (A := []) Try.func172 rfl Try.ntmps172 rfl (a3_fr _ _ _) (SH.start w) ?_
  refine wpS_seq ?_
  refine wpS_region ?_
  refine s_e rfl ?_
  refine e_box (v := .agg #[.bool (a.dead), .int .i64 (a.key.toInt), .int .i64 (a.value.toInt), .int .i64 (a.seq.toInt)]) (l := [.bool (a.dead), .int .i64 (a.key.toInt), .int .i64 (a.value.toInt), .int .i64 (a.seq.toInt)]) rfl rfl ?_
  intro b_1
  refine s_e rfl ?_
  refine e_box (v := .agg #[.bool (b.dead), .int .i64 (b.key.toInt), .int .i64 (b.value.toInt), .int .i64 (b.seq.toInt)]) (l := [.bool (b.dead), .int .i64 (b.key.toInt), .int .i64 (b.value.toInt), .int .i64 (b.seq.toInt)]) rfl rfl ?_
  intro b_2
  refine s_y (v := .bool false) (y_assign rfl) rfl ?_
  refine wpL_nil ?_
  refine thenS_n ?_
  refine wpS_seq ?_
  refine wpS_seq ?_
  refine wpS_region ?_
  refine s_y (v := .bool q) (y_move rfl) rfl ?_
  refine wpL_nil ?_
  refine thenS_n ?_
  refine wpS_cond (t := q) rfl (fun b3 => ?_) (fun b3 => ?_)
  · -- q true
    refine wpS_seq ?_
    refine wpS_region ?_
    refine s_y (v := .agg #[.bool (a.dead), .int .i64 (a.key.toInt), .int .i64 (a.value.toInt), .int .i64 (a.seq.toInt)]) (y_loadN (vs := [.bool (a.dead), .int .i64 (a.key.toInt), .int .i64 (a.value.toInt), .int .i64 (a.seq.toInt)]) rfl Try.isAgg23 Try.sizeOf23 (ownN (.t .h) rfl)) rfl ?_
    refine s_y (v := .agg #[.bool (b.dead), .int .i64 (b.key.toInt), .int .i64 (b.value.toInt), .int .i64 (b.seq.toInt)]) (y_loadN (vs := [.bool (b.dead), .int .i64 (b.key.toInt), .int .i64 (b.value.toInt), .int .i64 (b.seq.toInt)]) rfl Try.isAgg23 Try.sizeOf23 (ownN .h rfl)) rfl ?_
    refine s_y (v := .int .u64 ((b64 (before a b)).toNat)) (y_call (args := #[.agg #[.bool (a.dead), .int .i64 (a.key.toInt), .int .i64 (a.value.toInt), .int .i64 (a.seq.toInt)], .agg #[.bool (b.dead), .int .i64 (b.key.toInt), .int .i64 (b.value.toInt), .int .i64 (b.seq.toInt)]]) (v := .int .u64 ((b64 (before a b)).toNat)) Try.call45 (ev2 rfl rfl) (fun w hs => refbefore_c a b w)) rfl ?_
    refine s_y (v := .bool (decide ((b64 (before a b)) = 1))) (y_eql (a := (b64 (before a b)).toNat) (b := 1) (c := decide ((b64 (before a b)) = 1)) rfl rfl (u_eqlL _ 1 (by decide))) rfl ?_
    refine s_y (v := .bool (decide ((b64 (before a b)) = 1))) (y_assign rfl) rfl ?_
    refine wpL_nil ?_
    refine thenS_n ?_
    refine wpS_ret ?_
    refine thenS_r ?_
    refine fin1 (v := .bool (decide ((b64 (before a b)) = 1))) (.inr rfl) .nil Try.results172 rfl ?_
    exact fun w' hs => ⟨(by simp [ahd, b64_one, *]), hs⟩
  · -- q false
    refine wpS_skip ?_
    refine thenS_n ?_
    refine wpS_seq ?_
    refine wpS_region ?_
    refine s_y (v := .agg #[.bool (a.dead), .int .i64 (a.key.toInt), .int .i64 (a.value.toInt), .int .i64 (a.seq.toInt)]) (y_loadN (vs := [.bool (a.dead), .int .i64 (a.key.toInt), .int .i64 (a.value.toInt), .int .i64 (a.seq.toInt)]) rfl Try.isAgg23 Try.sizeOf23 (ownN (.t .h) rfl)) rfl ?_
    refine s_y (v := .agg #[.bool (b.dead), .int .i64 (b.key.toInt), .int .i64 (b.value.toInt), .int .i64 (b.seq.toInt)]) (y_loadN (vs := [.bool (b.dead), .int .i64 (b.key.toInt), .int .i64 (b.value.toInt), .int .i64 (b.seq.toInt)]) rfl Try.isAgg23 Try.sizeOf23 (ownN .h rfl)) rfl ?_
    refine s_y (v := .int .u64 ((b64 (ahead a b)).toNat)) (y_call (args := #[.agg #[.bool (a.dead), .int .i64 (a.key.toInt), .int .i64 (a.value.toInt), .int .i64 (a.seq.toInt)], .agg #[.bool (b.dead), .int .i64 (b.key.toInt), .int .i64 (b.value.toInt), .int .i64 (b.seq.toInt)]]) (v := .int .u64 ((b64 (ahead a b)).toNat)) Try.call46 (ev2 rfl rfl) (fun w hs => refahead_c a b w)) rfl ?_
    refine s_y (v := .bool (decide ((b64 (ahead a b)) = 1))) (y_eql (a := (b64 (ahead a b)).toNat) (b := 1) (c := decide ((b64 (ahead a b)) = 1)) rfl rfl (u_eqlL _ 1 (by decide))) rfl ?_
    refine s_y (v := .bool (decide ((b64 (ahead a b)) = 1))) (y_assign rfl) rfl ?_
    refine wpL_nil ?_
    refine thenS_n ?_
    refine wpS_ret ?_
    refine fin1 (v := .bool (decide ((b64 (ahead a b)) = 1))) (.inr rfl) .nil Try.results172 rfl ?_
    exact fun w' hs => ⟨(by simp [ahd, b64_one, *]), hs⟩

theorem same_all {na nb i : Nat} {x y : List Rec} (hna : x.length = na) (hnb : y.length = nb) (h : na = nb) (hi : na ≤ i) (e : x.take i = y.take i) : decide (x = y) = true := by
  rw [List.take_of_length_le (by omega), List.take_of_length_le (by omega)] at e
  exact decide_eq_true e
theorem same_not {i : Nat} {x y : List Rec} (h : ¬ x.getD i default = y.getD i default) : decide (x = y) = false := decide_eq_false fun e => h (by rw [e])
theorem same_step {i : Nat} {x y : List Rec} (h1 : i < x.length) (h2 : i < y.length) (e : x.take i = y.take i) (h : x.getD i default = y.getD i default) : x.take (i + 1) = y.take (i + 1) := by
  rw [List.take_succ_eq_append_getElem h1, List.take_succ_eq_append_getElem h2, e]
  simp [List.getD_eq_getElem?_getD, h1, h2] at h
  rw [h]

theorem hsame_c (a b : Option Addr) (na ca nb cb : Nat) (x y : List Rec) (w : World) (hna : x.length = na) (hnb : y.length = nb) (hra : Rds w a (x.flatMap recV)) (hrb : Rds w b (y.flatMap recV)) (hba : na ≤ 1000000) (hbb : nb ≤ 1000000) : Pure Try.prog 170 #[.slice a na ca, .slice b nb cb, .func (.func 171) #[] #[]] w (.bool ((decide (x = y)))) := by
  refine calls_S (n := 30) (σ0 := (upd (upd (upd fr0 0 (.slice a na ca)) 1 (.slice b nb cb)) 2 (.func (.func 171) #[] #[]))) (D := []) (A := []) Try.func170 rfl Try.ntmps170 rfl (a3_fr _ _ _) (SH.start w) ?_
  refine wpS_seq ?_
  refine wpS_region ?_
  refine s_y (v := .bool false) (y_assign rfl) rfl ?_
  refine wpL_nil ?_
  refine thenS_n ?_
  refine wpS_seq ?_
  refine wpS_seq ?_
  refine wpS_region ?_
  refine s_y (v := .slice a na ca) (y_move rfl) rfl ?_
  refine s_y (v := .int .i64 (((na : Nat) : Int))) (y_len (ty' := 0) (at_ := #[]) rfl Try.underlying69) rfl ?_
  refine s_y (v := .slice b nb cb) (y_move rfl) rfl ?_
  refine s_y (v := .int .i64 (((nb : Nat) : Int))) (y_len (ty' := 0) (at_ := #[]) rfl Try.underlying69) rfl ?_
  refine s_y (v := .bool (decide (na ≠ nb))) (y_neq (a := ((na : Nat) : Int)) (b := ((nb : Nat) : Int)) (c := decide (na ≠ nb)) rfl rfl (decide_eq_decide.2 (by omega))) rfl ?_
  refine wpL_nil ?_
  refine thenS_n ?_
  refine wpS_cond (t := decide (na ≠ nb)) rfl (fun b1 => ?_) (fun b1 => ?_)
  · -- decide (na ≠ nb) true
    have p1 := of_decide_eq_true b1
    refine wpS_seq ?_
    refine wpS_region ?_
    refine s_y (v := .bool false) (y_assign rfl) rfl ?_
    refine wpL_nil ?_
    refine thenS_n ?_
    refine wpS_ret ?_
    refine thenS_r ?_
    refine fin1 (v := .bool false) (.inr rfl) .nil Try.results170 rfl ?_
    exact fun w' hs => ⟨congrArg (fun b => Ending.returned (Value.bool b)) (by exact (decide_eq_false fun h => by subst h; omega).symm), hs⟩
  · -- decide (na ≠ nb) false
    have p1 := of_decide_eq_false b1
    refine wpS_skip ?_
    refine thenS_n ?_
    refine wpS_seq ?_
    refine wpS_seq ?_
    refine wpS_region ?_
    refine s_y (v := .int .i64 0) (y_assign rfl) rfl ?_
    refine wpL_nil ?_
    refine thenS_n ?_
    refine wpS_block ?_
    refine wpS_loop (fun m ds σ L => ∃ i : Nat, m = na - i ∧ (i ≤ na) ∧ (x.take i = y.take i) ∧ ds = [] ∧ σ 0 = .slice a na ca ∧ σ 1 = .slice b nb cb ∧ σ 2 = .func (.func 171) #[] #[] ∧ σ 7 = .int .i64 (((i : Nat) : Int)) ∧ Ent L []) (m0 := na - 0) ⟨0, rfl, by omega, (by simp), rfl, rfl, rfl, rfl, rfl, .nil⟩ ?_
    rintro m ds σ L ⟨i, hm_2, hf0_2, hf1_2, rfl, h0_2, h1_2, h2_2, h7_2, hE_2⟩
    refine wpS_ent hE_2 ?_; clear hE_2
    refine wpS_seq ?_
    refine wpS_seq ?_
    refine wpS_region ?_
    refine s_y (v := .int .i64 (((i : Nat) : Int))) (y_move h7_2) rfl ?_
    refine s_y (v := .slice a na ca) (y_move h0_2) rfl ?_
    refine s_y (v := .int .i64 (((na : Nat) : Int))) (y_len (ty' := 0) (at_ := #[]) rfl Try.underlying69) rfl ?_
    refine s_y (v := .bool (decide (i < na))) (y_lss (a := ((i : Nat) : Int)) (b := ((na : Nat) : Int)) (c := decide (i < na)) rfl rfl (decide_eq_decide.2 (by omega))) rfl ?_
    refine wpL_nil ?_
    refine thenS_n ?_
    refine wpS_cond (t := decide (i < na)) rfl (fun b3 => ?_) (fun b3 => ?_)
    · -- decide (i < na) true
      have p3 := of_decide_eq_true b3
      refine wpS_skip ?_
      refine thenS_n ?_
      refine wpS_seq ?_
      refine wpS_block ?_
      refine wpS_seq ?_
      refine wpS_lex (by kernel_rfl) (by kernel_rfl) ?_
      refine x_y (v := .func (.func 171) #[] #[]) (y_move h2_2) rfl ?_
      refine x_y (v := .slice a na ca) (y_move h0_2) rfl ?_
      refine x_y (v := .int .i64 (((i : Nat) : Int))) (y_move h7_2) rfl ?_
      refine x_y (v := .pointer (some ⟨aB a, aO a + i * 4, none⟩)) (y_idx (o := i * 4) rfl rfl Try.underlying69 Try.sizeOf23 (oldR hra) ((fl_len recV_len _).trans (by first | omega | (simp only [List.length_set, List.length_take, List.length_drop]; done) | (simp only [List.length_set, List.length_take, List.length_drop]; omega))) (by decide) (by omega) (by omega) (by omega)) rfl ?_
      refine x_y (v := .agg #[.bool ((x.getD i default).dead), .int .i64 (((x.getD i default).key).toInt), .int .i64 (((x.getD i default).value).toInt), .int .i64 (((x.getD i default).seq).toInt)]) (y_loadN (vs := recV (x.getD i default)) rfl Try.isAgg23 Try.sizeOf23 (rdN (oldR hra) (fl_getN recV_len x i (by first | omega | (simp only [List.length_set, List.length_take, List.length_drop]; done) | (simp only [List.length_set, List.length_take, List.length_drop]; omega))))) rfl ?_
      refine x_y (v := .slice b nb cb) (y_move h1_2) rfl ?_
      refine x_y (v := .int .i64 (((i : Nat) : Int))) (y_move h7_2) rfl ?_
      refine x_y (v := .pointer (some ⟨aB b, aO b + i * 4, none⟩)) (y_idx (o := i * 4) rfl rfl Try.underlying69 Try.sizeOf23 (oldR hrb) ((fl_len recV_len _).trans (by first | omega | (simp only [List.length_set, List.length_take, List.length_drop]; done) | (simp only [List.length_set, List.length_take, List.length_drop]; omega))) (by decide) (by omega) (by omega) (by omega)) rfl ?_
      refine x_y (v := .agg #[.bool ((y.getD i default).dead), .int .i64 (((y.getD i default).key).toInt), .int .i64 (((y.getD i default).value).toInt), .int .i64 (((y.getD i default).seq).toInt)]) (y_loadN (vs := recV (y.getD i default)) rfl Try.isAgg23 Try.sizeOf23 (rdN (oldR hrb) (fl_getN recV_len y i (by first | omega | (simp only [List.length_set, List.length_take, List.length_drop]; done) | (simp only [List.length_set, List.length_take, List.length_drop]; omega))))) rfl ?_
      refine x_y (v := .bool (decide ((x.getD i default) = (y.getD i default)))) (y_callV (cap := #[]) (args := #[.agg #[.bool ((x.getD i default).dead), .int .i64 (((x.getD i default).key).toInt), .int .i64 (((x.getD i default).value).toInt), .int .i64 (((x.getD i default).seq).toInt)], .agg #[.bool ((y.getD i default).dead), .int .i64 (((y.getD i default).key).toInt), .int .i64 (((y.getD i default).value).toInt), .int .i64 (((y.getD i default).seq).toInt)]]) (args' := #[.agg #[.bool ((x.getD i default).dead), .int .i64 (((x.getD i default).key).toInt), .int .i64 (((x.getD i default).value).toInt), .int .i64 (((x.getD i default).seq).toInt)], .agg #[.bool ((y.getD i default).dead), .int .i64 (((y.getD i default).key).toInt), .int .i64 (((y.getD i default).value).toInt), .int .i64 (((y.getD i default).seq).toInt)]]) (v := .bool (decide ((x.getD i default) = (y.getD i default)))) rfl Try.call171 (ev2 rfl rfl) rfl (fun w hs => plain1_c (x.getD i default) (y.getD i default) w)) rfl ?_
      refine x_y (v := .bool (!(decide ((x.getD i default) = (y.getD i default))))) (y_not (b := decide ((x.getD i default) = (y.getD i default))) rfl) rfl ?_
      refine x_nil ?_
      refine thenS_n ?_
      refine wpS_cond (t := !(decide ((x.getD i default) = (y.getD i default)))) rfl (fun b4 => ?_) (fun b4 => ?_)
      · -- !(decide ((x.getD i default) = (y.getD i default))) true
        have b5 : (decide ((x.getD i default) = (y.getD i default))) = false := by simpa using b4
        have p5 := of_decide_eq_false b5
        refine wpS_seq ?_
        refine wpS_region ?_
        refine s_y (v := .bool false) (y_assign rfl) rfl ?_
        refine wpL_nil ?_
        refine thenS_n ?_
        refine wpS_ret ?_
        refine blockS_r ?_
        refine thenS_r ?_
        refine thenS_r ?_
        refine blockS_r ?_
        refine thenS_r ?_
        refine fin1 (v := .bool false) (.inr rfl) .nil Try.results170 rfl ?_
        exact fun w' hs => ⟨congrArg (fun b => Ending.returned (Value.bool b)) (by exact (same_not (i := i) (by assumption)).symm), hs⟩
      · -- !(decide ((x.getD i default) = (y.getD i default))) false
        have b6 : (decide ((x.getD i default) = (y.getD i default))) = true := by simpa using b4
        have p6 := of_decide_eq_true b6
        refine wpS_skip ?_
        refine blockS_n ?_
        refine thenS_n ?_
        refine wpS_region ?_
        refine s_y (v := .int .i64 (((i : Nat) : Int))) (y_move h7_2) rfl ?_
        refine s_y (v := .int .i64 ((((i + 1) : Nat) : Int))) (y_add (a := ((i : Nat) : Int)) (b := 1) (c := (((i + 1) : Nat) : Int)) rfl rfl (wI (by omega) (by omega) (by omega))) rfl ?_
        refine s_y (v := .int .i64 ((((i + 1) : Nat) : Int))) (y_assign rfl) rfl ?_
        refine wpL_nil ?_
        refine thenS_n ?_
        exact ⟨_, by omega, ⟨(i + 1), rfl, by omega, (same_step (by omega) (by omega) (by assumption) (by assumption)), rfl, h0_2, h1_2, h2_2, rfl, .nil⟩⟩
    · -- decide (i < na) false
      have p3 := of_decide_eq_false b3
      refine wpS_exit ?_
      refine thenS_x ?_
      refine thenS_x ?_
      refine blockS_h ?_
      refine thenS_n ?_
      refine wpS_seq ?_
      refine wpS_region ?_
      refine s_y (v := .bool true) (y_assign rfl) rfl ?_
      refine wpL_nil ?_
      refine thenS_n ?_
      refine wpS_ret ?_
      refine fin1 (v := .bool true) (.inr rfl) .nil Try.results170 rfl ?_
      exact fun w' hs => ⟨congrArg (fun b => Ending.returned (Value.bool b)) (by exact (same_all (i := i) hna hnb (by omega) (by omega) (by assumption)).symm), hs⟩

theorem plain_c (a b : Option Addr) (na ca nb cb : Nat) (x y : List Rec) (w : World) (hna : x.length = na) (hnb : y.length = nb) (hra : Rds w a (x.flatMap recV)) (hrb : Rds w b (y.flatMap recV)) (hba : na ≤ 1000000) (hbb : nb ≤ 1000000) : Pure Try.prog 77 #[.slice a na ca, .slice b nb cb] w (.bool ((decide (x = y)))) := by
  refine calls_S (n := 8) (σ0 := (upd (upd fr0 0 (.slice a na ca)) 1 (.slice b nb cb))) (D := []) (A := []) Try.func77 rfl Try.ntmps77 rfl (a2_fr _ _) (SH.start w) ?_
  refine wpS_seq ?_
  refine wpS_region ?_
  refine s_y (v := .bool false) (y_assign rfl) rfl ?_
  refine wpL_nil ?_
  refine thenS_n ?_
  refine wpS_seq ?_
  refine wpS_region ?_
  refine s_y (v := .slice a na ca) (y_move rfl) rfl ?_
  refine s_y (v := .slice b nb cb) (y_move rfl) rfl ?_
  refine s_y (v := .bool (decide (x = y))) (y_call (args := #[.slice a na ca, .slice b nb cb, .func (.func 171) #[] #[]]) (v := .bool (decide (x = y))) Try.call170 (ev3 rfl rfl rfl) (fun w hs => hsame_c a b na ca nb cb x y w hna hnb ((oldR hra) w hs) ((oldR hrb) w hs) (by omega) (by omega))) rfl ?_
  refine s_y (v := .bool (decide (x = y))) (y_assign rfl) rfl ?_
  refine wpL_nil ?_
  refine thenS_n ?_
  refine wpS_ret ?_
  refine fin1 (v := .bool (decide (x = y))) (.inr rfl) .nil Try.results77 rfl ?_
  exact fun w' hs => ⟨rfl, hs⟩

theorem rs_step {sq : Bool} {l : List Rec} {i : Nat} (h : ∀ j, j < i → 1 ≤ j → ahd sq (l.getD j default) (l.getD (j - 1) default) = false) (h2 : ahd sq (l.getD i default) (l.getD (i - 1) default) = false) : ∀ j, j < i + 1 → 1 ≤ j → ahd sq (l.getD j default) (l.getD (j - 1) default) = false := fun j h1 h3 => by
  rcases Nat.lt_or_ge j i with h4 | h4
  · exact h j h4 h3
  · obtain rfl : j = i := by omega
    exact h2

theorem refsorted_c (a : Option Addr) (n c : Nat) (l : List Rec) (sq : Bool) (w : World) (hn : l.length = n) (hr : Rds w a (l.flatMap recV)) (hb : n ≤ 1000000) : Pure Try.prog 80 #[.slice a n c, .bool sq] w (.bool ((srtd sq l))) := by
  refine calls_S (n := 23) (σ0 := (upd (upd fr0 0 (.slice a n c)) 1 (.bool sq))) (D := []) (A := []) Try.func80 rfl Try.ntmps80 rfl (a2_fr _ _) (SH.start w) ?_
  refine wpS_seq ?_
  refine wpS_region ?_
  refine s_y (v := .bool false) (y_assign rfl) rfl ?_
  refine wpL_nil ?_
  refine thenS_n ?_
  refine wpS_seq ?_
  refine wpS_seq ?_
  refine wpS_region ?_
  refine s_y (v := .int .i64 1) (y_assign rfl) rfl ?_
  refine wpL_nil ?_
  refine thenS_n ?_
  refine wpS_block ?_
  refine wpS_loop (fun m ds σ L => ∃ i : Nat, m = n - i ∧ (1 ≤ i) ∧ (∀ j, j < i → 1 ≤ j → ahd sq (l.getD j default) (l.getD (j - 1) default) = false) ∧ ds = [] ∧ σ 0 = .slice a n c ∧ σ 1 = .bool sq ∧ σ 5 = .int .i64 (((i : Nat) : Int)) ∧ Ent L []) (m0 := n - 1) ⟨1, rfl, by omega, (fun j h1 h2 => by omega), rfl, rfl, rfl, rfl, .nil⟩ ?_
  rintro m ds σ L ⟨i, hm_1, hf0_1, hf1_1, rfl, h0_1, h1_1, h5_1, hE_1⟩
  refine wpS_ent hE_1 ?_; clear hE_1
  refine wpS_seq ?_
  refine wpS_seq ?_
  refine wpS_region ?_
  refine s_y (v := .int .i64 (((i : Nat) : Int))) (y_move h5_1) rfl ?_
  refine s_y (v := .slice a n c) (y_move h0_1) rfl ?_
  refine s_y (v := .int .i64 (((n : Nat) : Int))) (y_len (ty' := 0) (at_ := #[]) rfl Try.underlying69) rfl ?_
  refine s_y (v := .bool (decide (i < n))) (y_lss (a := ((i : Nat) : Int)) (b := ((n : Nat) : Int)) (c := decide (i < n)) rfl rfl (decide_eq_decide.2 (by omega))) rfl ?_
  refine wpL_nil ?_
  refine thenS_n ?_
  refine wpS_cond (t := decide (i < n)) rfl (fun b2 => ?_) (fun b2 => ?_)
  · -- decide (i < n) true
    have p2 := of_decide_eq_true b2
    refine wpS_skip ?_
    refine thenS_n ?_
    refine wpS_seq ?_
    refine wpS_block ?_
    refine wpS_seq ?_
    refine wpS_lex (by kernel_rfl) (by kernel_rfl) ?_
    refine x_y (v := .slice a n c) (y_move h0_1) rfl ?_
    refine x_y (v := .int .i64 (((i : Nat) : Int))) (y_move h5_1) rfl ?_
    refine x_y (v := .pointer (some ⟨aB a, aO a + i * 4, none⟩)) (y_idx (o := i * 4) rfl rfl Try.underlying69 Try.sizeOf23 (oldR hr) ((fl_len recV_len _).trans (by first | omega | (simp only [List.length_set, List.length_take, List.length_drop]; done) | (simp only [List.length_set, List.length_take, List.length_drop]; omega))) (by decide) (by omega) (by omega) (by omega)) rfl ?_
    refine x_y (v := .agg #[.bool ((l.getD i default).dead), .int .i64 (((l.getD i default).key).toInt), .int .i64 (((l.getD i default).value).toInt), .int .i64 (((l.getD i default).seq).toInt)]) (y_loadN (vs := recV (l.getD i default)) rfl Try.isAgg23 Try.sizeOf23 (rdN (oldR hr) (fl_getN recV_len l i (by first | omega | (simp only [List.length_set, List.length_take, List.length_drop]; done) | (simp only [List.length_set, List.length_take, List.length_drop]; omega))))) rfl ?_
    refine x_y (v := .slice a n c) (y_move h0_1) rfl ?_
    refine x_y (v := .int .i64 (((i : Nat) : Int))) (y_move h5_1) rfl ?_
    refine x_y (v := .int .i64 ((((i - 1) : Nat) : Int))) (y_sub (a := ((i : Nat) : Int)) (b := 1) (c := (((i - 1) : Nat) : Int)) rfl rfl (wI (by omega) (by omega) (by omega))) rfl ?_
    refine x_y (v := .pointer (some ⟨aB a, aO a + (i - 1) * 4, none⟩)) (y_idx (o := (i - 1) * 4) rfl rfl Try.underlying69 Try.sizeOf23 (oldR hr) ((fl_len recV_len _).trans (by first | omega | (simp only [List.length_set, List.length_take, List.length_drop]; done) | (simp only [List.length_set, List.length_take, List.length_drop]; omega))) (by decide) (by omega) (by omega) (by omega)) rfl ?_
    refine x_y (v := .agg #[.bool ((l.getD (i - 1) default).dead), .int .i64 (((l.getD (i - 1) default).key).toInt), .int .i64 (((l.getD (i - 1) default).value).toInt), .int .i64 (((l.getD (i - 1) default).seq).toInt)]) (y_loadN (vs := recV (l.getD (i - 1) default)) rfl Try.isAgg23 Try.sizeOf23 (rdN (oldR hr) (fl_getN recV_len l (i - 1) (by first | omega | (simp only [List.length_set, List.length_take, List.length_drop]; done) | (simp only [List.length_set, List.length_take, List.length_drop]; omega))))) rfl ?_
    refine x_y (v := .bool sq) (y_move h1_1) rfl ?_
    refine x_y (v := .bool ((ahd sq (l.getD i default) (l.getD (i - 1) default)))) (y_call (args := #[.agg #[.bool ((l.getD i default).dead), .int .i64 (((l.getD i default).key).toInt), .int .i64 (((l.getD i default).value).toInt), .int .i64 (((l.getD i default).seq).toInt)], .agg #[.bool ((l.getD (i - 1) default).dead), .int .i64 (((l.getD (i - 1) default).key).toInt), .int .i64 (((l.getD (i - 1) default).value).toInt), .int .i64 (((l.getD (i - 1) default).seq).toInt)], .bool sq]) (v := .bool ((ahd sq (l.getD i default) (l.getD (i - 1) default)))) Try.call172 (ev3 rfl rfl rfl) (fun w hs => refahd_c (l.getD i default) (l.getD (i - 1) default) sq w)) rfl ?_
    refine x_nil ?_
    refine thenS_n ?_
    refine wpS_cond (t := (ahd sq (l.getD i default) (l.getD (i - 1) default))) rfl (fun b3 => ?_) (fun b3 => ?_)
    · -- (ahd sq (l.getD i default) (l.getD (i - 1) default)) true
      refine wpS_seq ?_
      refine wpS_region ?_
      refine s_y (v := .bool false) (y_assign rfl) rfl ?_
      refine wpL_nil ?_
      refine thenS_n ?_
      refine wpS_ret ?_
      refine blockS_r ?_
      refine thenS_r ?_
      refine thenS_r ?_
      refine blockS_r ?_
      refine thenS_r ?_
      refine fin1 (v := .bool false) (.inr rfl) .nil Try.results80 rfl ?_
      exact fun w' hs => ⟨congrArg (fun b => Ending.returned (Value.bool b)) (decide_eq_false fun h => by have h1 := h i (by omega) (by omega); have h2 := (by assumption : ahd sq (l.getD i default) (l.getD (i - 1) default) = true); rw [h1] at h2; cases h2).symm, hs⟩
    · -- (ahd sq (l.getD i default) (l.getD (i - 1) default)) false
      refine wpS_skip ?_
      refine blockS_n ?_
      refine thenS_n ?_
      refine wpS_region ?_
      refine s_y (v := .int .i64 (((i : Nat) : Int))) (y_move h5_1) rfl ?_
      refine s_y (v := .int .i64 ((((i + 1) : Nat) : Int))) (y_add (a := ((i : Nat) : Int)) (b := 1) (c := (((i + 1) : Nat) : Int)) rfl rfl (wI (by omega) (by omega) (by omega))) rfl ?_
      refine s_y (v := .int .i64 ((((i + 1) : Nat) : Int))) (y_assign rfl) rfl ?_
      refine wpL_nil ?_
      refine thenS_n ?_
      exact ⟨_, by omega, ⟨(i + 1), rfl, by omega, (rs_step (by assumption) (by assumption)), rfl, h0_1, h1_1, rfl, .nil⟩⟩
  · -- decide (i < n) false
    have p2 := of_decide_eq_false b2
    refine wpS_exit ?_
    refine thenS_x ?_
    refine thenS_x ?_
    refine blockS_h ?_
    refine thenS_n ?_
    refine wpS_seq ?_
    refine wpS_region ?_
    refine s_y (v := .bool true) (y_assign rfl) rfl ?_
    refine wpL_nil ?_
    refine thenS_n ?_
    refine wpS_ret ?_
    refine fin1 (v := .bool true) (.inr rfl) .nil Try.results80 rfl ?_
    exact fun w' hs => ⟨congrArg (fun b => Ending.returned (Value.bool b)) (decide_eq_true fun j h1 h2 => (by assumption : ∀ j, j < i → 1 ≤ j → ahd sq (l.getD j default) (l.getD (j - 1) default) = false) j (by omega) h2).symm, hs⟩

end Go.Proofs.Ytldkjjnjdjfipaa
