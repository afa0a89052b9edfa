/- merge.Sort, walked. -/
import Derived.Test.YtldkjjnjdjfipaaWMrg1
namespace Go.Proofs.Ytldkjjnjdjfipaa
open Go Go.RowKit
set_option linter.unusedVariables false
set_option linter.unusedSimpArgs false
set_option maxRecDepth 10000

/-- one pair of the network -/
def swp (sq : Bool) (i : Nat) (x : List Rec) : List Rec := if ahd sq (x.getD (i + 1) default) (x.getD i default) then (x.set i (x.getD (i + 1) default)).set (i + 1) (x.getD i default) else x
/-- one round, from pair i on -/
def srow (sq : Bool) (r n i : Nat) (x : List Rec) : List Rec := if i + 1 < n then srow sq r n (i + 1) (if i % 2 = r % 2 then swp sq i x else x) else x
termination_by n - i
def srows (sq : Bool) (n r : Nat) (y : List Rec) : List Rec := if r < n then srows sq n (r + 1) (srow sq r n 0 y) else y
termination_by n - r
/-- the sort by a network -/
def msort (sq : Bool) (l : List Rec) : List Rec := srows sq l.length 0 l
theorem srow_next {sq : Bool} {r n i : Nat} {x : List Rec} (h : i + 1 < n) : srow sq r n i x = srow sq r n (i + 1) (if i % 2 = r % 2 then swp sq i x else x) := by rw [srow, if_pos h]
theorem srow_end {sq : Bool} {r n i : Nat} {x : List Rec} (h : ¬ i + 1 < n) : srow sq r n i x = x := by rw [srow, if_neg h]
theorem srows_next {sq : Bool} {r n : Nat} {x : List Rec} (h : r < n) : srows sq n r x = srows sq n (r + 1) (srow sq r n 0 x) := by rw [srows, if_pos h]
theorem srows_done {sq : Bool} {n : Nat} : ∀ {r : Nat} {x : List Rec}, (¬ r < n ∨ n < 2) → srows sq n r x = x := by
  intro r x h
  induction r, x using srows.induct (sq := sq) (n := n) with
  | case1 r x hlt ih => rw [srows_next hlt, srow_end (by omega)]; rw [srow_end (by omega)] at ih; exact ih (by omega)
  | case2 r x hlt => rw [srows, if_neg hlt]
theorem getD_set_self {α : Type} [Inhabited α] (x : List α) (i : Nat) : x.set i (x.getD i default) = x := by
  apply List.ext_getElem (by simp)
  intro k h1 h2
  rw [List.getElem_set]
  split
  · subst_vars; simp [List.getD_eq_getElem?_getD, h2]
  · rfl
theorem swp_eq1 (sq : Bool) (i : Nat) (x : List Rec) : (x.set i (pickR (b64 (ahd sq (x.getD (i + 1) default) (x.getD i default))) (x.getD (i + 1) default) (x.getD i default))).set (i + 1) (pickR (b64 (ahd sq (x.getD (i + 1) default) (x.getD i default))) (x.getD i default) (x.getD (i + 1) default)) = swp sq i x := by
  unfold swp
  cases ahd sq (x.getD (i + 1) default) (x.getD i default) with
  | true => simp [pickR, b64]
  | false =>
    have e : ∀ a b : Rec, pickR (b64 false) a b = b := fun a b => by simp [pickR, b64]
    rw [e, e, getD_set_self, getD_set_self]
    rfl
theorem swp_eq2 (sq : Bool) (i : Nat) (x : List Rec) : (x.set (i + 1) (pickR (b64 (ahd sq (x.getD (i + 1) default) (x.getD i default))) (x.getD i default) (x.getD (i + 1) default))).set i (pickR (b64 (ahd sq (x.getD (i + 1) default) (x.getD i default))) (x.getD (i + 1) default) (x.getD i default)) = swp sq i x := by
  rw [List.set_comm _ _ (by omega), swp_eq1]
theorem swp_len (sq : Bool) (i : Nat) (x : List Rec) : (swp sq i x).length = x.length := by unfold swp; split <;> simp

theorem sort_c (a : Option Addr) (n c : Nat) (l : List Rec) (sq : Bool) (w : World) (hn : l.length = n) (hr : Rds w a (l.flatMap recV)) (hb : n ≤ 1000000) : MakesS Try.prog 74 #[.slice a n c, .bool sq] w [] recV 4 23 (msort sq l) := by
  refine calls_S (n := 72) (σ0 := (upd (upd fr0 0 (.slice a n c)) 1 (.bool sq))) (D := []) (A := []) Try.func74 rfl Try.ntmps74 rfl (a2_fr _ _) (SH.start w) ?_
  refine wpS_seq ?_
  refine wpS_region ?_
  refine s_y (v := .slice none 0 0) (y_assign rfl) rfl ?_
  refine wpL_nil ?_
  refine thenS_n ?_
  refine wpS_scope ?_
  refine wpS_seq ?_
  refine wpS_region ?_
  refine s_y (v := .slice a n c) (y_move rfl) rfl ?_
  refine s_e rfl ?_
  refine e_call (f := 168) (args := #[.slice a n c]) (X := Option Addr × Nat) (A := []) (M := []) (V := slV l) (A' := fun x => [slR recV 4 23 l x]) (C := fun x => l.length ≤ x.2) Try.call168 (ev1 rfl) (.nil) (fun w hs => (clone_c a n c l w hn ((oldR hr) w hs) (by omega)).cap) ?_
  rintro ⟨a_1, c_2⟩ hc3; replace hc3 : l.length ≤ c_2 := hc3
  refine s_y (v := .slice a_1 l.length c_2) (y_assign rfl) rfl ?_
  refine wpL_nil ?_
  refine thenS_n ?_
  refine wpS_seq ?_
  refine wpS_label ?_
  refine thenS_n ?_
  refine wpS_seq ?_
  refine wpS_seq ?_
  refine wpS_region ?_
  refine s_y (v := .slice a_1 l.length c_2) (y_move rfl) rfl ?_
  refine s_y (v := .int .i64 (((l.length : Nat) : Int))) (y_len (ty' := 0) (at_ := #[]) rfl Try.underlying69) rfl ?_
  refine s_y (v := .int .i64 0) (y_move rfl) rfl ?_
  refine wpL_nil ?_
  refine thenS_n ?_
  refine wpS_block ?_
  refine wpS_loop (fun m ds σ L => ∃ r : Nat, ∃ y : List Rec, m = l.length - r ∧ r ≤ l.length ∧ y.length = l.length ∧ srows sq l.length r y = srows sq l.length 0 l ∧ ds = [] ∧ σ 0 = .slice a_1 l.length c_2 ∧ σ 1 = .bool sq ∧ σ 11 = .int .i64 (((l.length : Nat) : Int)) ∧ σ 12 = .int .i64 (((r : Nat) : Int)) ∧ Ent L [osl a_1 c_2 l.length 4 23 (y.flatMap recV)]) (m0 := l.length - 0) ⟨0, l, rfl, by omega, rfl, rfl, rfl, rfl, rfl, rfl, rfl, .p .h .nil⟩ ?_
  rintro m ds σ L ⟨r, y, hm_4, hf0_4, hf1_4, hf2_4, rfl, h0_4, h1_4, h11_4, h12_4, hE_4⟩
  refine wpS_ent hE_4 ?_; clear hE_4
  refine wpS_seq ?_
  refine wpS_region ?_
  refine s_y (v := .bool (decide (r < l.length))) (y_lss (a := ((r : Nat) : Int)) (b := ((l.length : Nat) : Int)) (c := decide (r < l.length)) h12_4 h11_4 (by simp only [decide_eq_decide]; omega)) rfl ?_
  refine wpL_nil ?_
  refine thenS_n ?_
  refine wpS_seq ?_
  refine wpS_cond (t := decide (r < l.length)) rfl (fun b5 => ?_) (fun b5 => ?_)
  · -- decide (r < l.length) true
    have p5 := of_decide_eq_true b5
    refine wpS_skip ?_
    refine thenS_n ?_
    refine wpS_seq ?_
    refine wpS_block ?_
    refine wpS_seq ?_
    refine wpS_region ?_
    refine s_y (v := .int .i64 (((r : Nat) : Int))) (y_move h12_4) rfl ?_
    refine s_y (v := .int .i64 (((r : Nat) : Int))) (y_assign rfl) rfl ?_
    refine wpL_nil ?_
    refine thenS_n ?_
    refine wpS_scope ?_
    refine wpS_seq ?_
    refine wpS_seq ?_
    refine wpS_region ?_
    refine s_y (v := .slice a_1 l.length c_2) (y_move h0_4) rfl ?_
    refine s_y (v := .int .i64 (((l.length : Nat) : Int))) (y_len (ty' := 0) (at_ := #[]) rfl Try.underlying69) rfl ?_
    refine s_y (v := .bool (decide ((l.length : Nat) < 2))) (y_lss (a := ((l.length : Nat) : Int)) (b := 2) (c := decide ((l.length : Nat) < 2)) rfl rfl (by simp only [decide_eq_decide]; omega)) rfl ?_
    refine wpL_nil ?_
    refine thenS_n ?_
    refine wpS_cond (t := decide ((l.length : Nat) < 2)) rfl (fun b6 => ?_) (fun b6 => ?_)
    · -- decide ((l.length : Nat) < 2) true
      have p6 := of_decide_eq_true b6
      refine wpS_exit ?_
      refine thenS_x ?_
      refine scopeS_x ?_
      refine blockS_m rfl ?_
      refine thenS_x ?_
      refine thenS_x ?_
      refine blockS_h ?_
      refine thenS_n ?_
      refine wpS_seq ?_
      refine wpS_region ?_
      refine s_y (v := .slice a_1 l.length c_2) (y_move h0_4) rfl ?_
      refine s_y (v := .slice a_1 l.length c_2) (y_assign rfl) rfl ?_
      refine wpL_nil ?_
      refine thenS_n ?_
      refine wpS_ret ?_
      refine scopeS_r ?_
      refine fin1 (M := [osl a_1 c_2 l.length 4 23 (y.flatMap recV)]) (v := .slice a_1 l.length c_2) (.inr rfl) (.p .h .nil) Try.results74 rfl ?_
      exact fun w' hs => ⟨(a_1, c_2), by rw [show (msort sq l) = y from (by unfold msort; rw [← (by assumption : srows sq l.length r y = srows sq l.length 0 l), srows_done (by omega)])]; simp only [slV, show y.length = l.length from by omega], by rw [show (msort sq l) = y from (by unfold msort; rw [← (by assumption : srows sq l.length r y = srows sq l.length 0 l), srows_done (by omega)])]; simp only [slR, show y.length = l.length from by omega]; exact hs, trivial⟩
    · -- decide ((l.length : Nat) < 2) false
      have p6 := of_decide_eq_false b6
      refine wpS_skip ?_
      refine thenS_n ?_
      refine wpS_seq ?_
      refine wpS_label ?_
      refine thenS_n ?_
      refine wpS_seq ?_
      refine wpS_region ?_
      refine s_y (v := .slice a_1 l.length c_2) (y_move h0_4) rfl ?_
      refine s_y (v := .int .i64 (((l.length : Nat) : Int))) (y_len (ty' := 0) (at_ := #[]) rfl Try.underlying69) rfl ?_
      refine s_y (v := .int .i64 (((l.length : Nat) : Int) - 1)) (y_sub (a := ((l.length : Nat) : Int)) (b := 1) (c := ((l.length : Nat) : Int) - 1) rfl rfl (wI rfl (by omega) (by omega))) rfl ?_
      refine s_y (v := .int .i64 0) (y_move rfl) rfl ?_
      refine wpL_nil ?_
      refine thenS_n ?_
      refine wpS_block ?_
      refine wpS_loop (fun m ds σ L => ∃ i : Nat, ∃ x : List Rec, m = l.length - i ∧ i < l.length ∧ x.length = l.length ∧ srow sq r l.length i x = srow sq r l.length 0 y ∧ ds = [] ∧ σ 0 = .slice a_1 l.length c_2 ∧ σ 1 = .bool sq ∧ σ 5 = .int .i64 (((r : Nat) : Int)) ∧ σ 11 = .int .i64 (((l.length : Nat) : Int)) ∧ σ 12 = .int .i64 (((r : Nat) : Int)) ∧ σ 20 = .int .i64 (((l.length : Nat) : Int) - 1) ∧ σ 21 = .int .i64 (((i : Nat) : Int)) ∧ Ent L [osl a_1 c_2 l.length 4 23 (x.flatMap recV)]) (m0 := l.length - 0) ⟨0, y, rfl, by omega, by omega, rfl, rfl, h0_4, h1_4, rfl, h11_4, h12_4, rfl, rfl, .p .h .nil⟩ ?_
      rintro m ds σ L ⟨i, x, hm_7, hf0_7, hf1_7, hf2_7, rfl, h0_7, h1_7, h5_7, h11_7, h12_7, h20_7, h21_7, hE_7⟩
      refine wpS_ent hE_7 ?_; clear hE_7
      refine wpS_seq ?_
      refine wpS_region ?_
      refine s_y (v := .bool (decide ((((i : Nat) : Int) : Int) < (((l.length : Nat) : Int) - 1)))) (y_lss (a := ((i : Nat) : Int)) (b := ((l.length : Nat) : Int) - 1) h21_7 h20_7 rfl) rfl ?_
      refine wpL_nil ?_
      refine thenS_n ?_
      refine wpS_seq ?_
      refine wpS_cond (t := decide ((((i : Nat) : Int) : Int) < (((l.length : Nat) : Int) - 1))) rfl (fun b8 => ?_) (fun b8 => ?_)
      · -- decide ((((i : Nat) : Int) : Int) < (((l.length : Nat) : Int) - 1)) true
        have p8 := of_decide_eq_true b8
        refine wpS_skip ?_
        refine thenS_n ?_
        refine wpS_seq ?_
        refine wpS_block ?_
        refine wpS_seq ?_
        refine wpS_region ?_
        refine s_y (v := .int .i64 (((i : Nat) : Int))) (y_move h21_7) rfl ?_
        refine s_y (v := .int .i64 (((i : Nat) : Int))) (y_assign rfl) rfl ?_
        refine wpL_nil ?_
        refine thenS_n ?_
        refine wpS_seq ?_
        refine wpS_seq ?_
        refine wpS_region ?_
        refine s_y (v := .int .i64 (((i : Nat) : Int))) (y_move rfl) rfl ?_
        refine s_y (v := .int .i64 ((((i % 2) : Nat) : Int))) (y_rem (a := ((i : Nat) : Int)) (b := 2) (c := (((i % 2) : Nat) : Int)) rfl rfl (by omega) (n_rem _ 2 (by omega))) rfl ?_
        refine s_y (v := .int .i64 (((r : Nat) : Int))) (y_move h5_7) rfl ?_
        refine s_y (v := .int .i64 ((((r % 2) : Nat) : Int))) (y_rem (a := ((r : Nat) : Int)) (b := 2) (c := (((r % 2) : Nat) : Int)) rfl rfl (by omega) (n_rem _ 2 (by omega))) rfl ?_
        refine s_y (v := .bool (decide ((i % 2) ≠ (r % 2)))) (y_neq (a := (((i % 2) : Nat) : Int)) (b := (((r % 2) : Nat) : Int)) (c := decide ((i % 2) ≠ (r % 2))) rfl rfl (by simp only [decide_eq_decide]; omega)) rfl ?_
        refine wpL_nil ?_
        refine thenS_n ?_
        refine wpS_cond (t := decide ((i % 2) ≠ (r % 2))) rfl (fun b9 => ?_) (fun b9 => ?_)
        · -- decide ((i % 2) ≠ (r % 2)) true
          have p9 := of_decide_eq_true b9
          refine wpS_exit ?_
          refine thenS_x ?_
          refine blockS_h ?_
          refine thenS_n ?_
          refine wpS_region ?_
          refine s_y (v := .int .i64 ((((i + 1) : Nat) : Int))) (y_add (a := ((i : Nat) : Int)) (b := 1) (c := (((i + 1) : Nat) : Int)) h21_7 rfl (wI (by omega) (by omega) (by omega))) rfl ?_
          refine s_y (v := .int .i64 ((((i + 1) : Nat) : Int))) (y_move rfl) rfl ?_
          refine wpL_nil ?_
          refine thenS_n ?_
          exact ⟨_, by omega, ⟨(i + 1), x, rfl, by omega, (by (try simp only [List.length_set]); omega), (by rw [← (by assumption : srow sq r l.length i x = srow sq r l.length 0 y), srow_next (i := i) (by omega)]; first | rw [if_neg (by omega)] | rw [if_pos (by omega), swp_eq1] | rw [if_pos (by omega), swp_eq2]), rfl, h0_7, h1_7, h5_7, h11_7, h12_7, h20_7, rfl, .p .h .nil⟩⟩
        · -- decide ((i % 2) ≠ (r % 2)) false
          have p9 := of_decide_eq_false b9
          refine wpS_skip ?_
          refine thenS_n ?_
          refine wpS_seq ?_
          refine wpS_lex (by kernel_rfl) (by kernel_rfl) ?_
          refine x_y (v := .slice a_1 l.length c_2) (y_move h0_7) rfl ?_
          refine x_y (v := .int .i64 (((i : Nat) : Int))) (y_move rfl) rfl ?_
          refine x_y (v := .pointer (some ⟨aB a_1, aO a_1 + i * 4, none⟩)) (y_idx (o := i * 4) rfl rfl Try.underlying69 Try.sizeOf23 (oslR .h) (by rw [fl_len recV_len]; (try simp only [List.length_set]); omega) (by decide) (by omega) (by omega) (by omega)) rfl ?_
          refine x_y (v := .agg #[.bool ((x.getD i default).dead), .int .i64 (((x.getD i default).key).toInt), .int .i64 (((x.getD i default).value).toInt), .int .i64 (((x.getD i default).seq).toInt)]) (y_loadN (vs := recV (x.getD i default)) rfl Try.isAgg23 Try.sizeOf23 (rdN (oslR .h) (fl_getN recV_len _ i (by omega)))) rfl ?_
          refine x_y (v := .slice a_1 l.length c_2) (y_move h0_7) rfl ?_
          refine x_y (v := .int .i64 (((i : Nat) : Int))) (y_move rfl) rfl ?_
          refine x_y (v := .int .i64 ((((i + 1) : Nat) : Int))) (y_add (a := ((i : Nat) : Int)) (b := 1) (c := (((i + 1) : Nat) : Int)) rfl rfl (wI (by omega) (by omega) (by omega))) rfl ?_
          refine x_y (v := .pointer (some ⟨aB a_1, aO a_1 + (i + 1) * 4, none⟩)) (y_idx (o := (i + 1) * 4) rfl rfl Try.underlying69 Try.sizeOf23 (oslR .h) (by rw [fl_len recV_len]; (try simp only [List.length_set]); omega) (by decide) (by omega) (by omega) (by omega)) rfl ?_
          refine x_y (v := .agg #[.bool ((x.getD (i + 1) default).dead), .int .i64 (((x.getD (i + 1) default).key).toInt), .int .i64 (((x.getD (i + 1) default).value).toInt), .int .i64 (((x.getD (i + 1) default).seq).toInt)]) (y_loadN (vs := recV (x.getD (i + 1) default)) rfl Try.isAgg23 Try.sizeOf23 (rdN (oslR .h) (fl_getN recV_len _ (i + 1) (by omega)))) rfl ?_
          refine x_y (v := .bool sq) (y_move h1_7) rfl ?_
          refine x_y (v := .int .u64 ((b64 (ahd sq (x.getD (i + 1) default) (x.getD i default))).toNat)) (y_call (args := #[.agg #[.bool ((x.getD i default).dead), .int .i64 (((x.getD i default).key).toInt), .int .i64 (((x.getD i default).value).toInt), .int .i64 (((x.getD i default).seq).toInt)], .agg #[.bool ((x.getD (i + 1) default).dead), .int .i64 (((x.getD (i + 1) default).key).toInt), .int .i64 (((x.getD (i + 1) default).value).toInt), .int .i64 (((x.getD (i + 1) default).seq).toInt)], .bool sq]) (v := .int .u64 ((b64 (ahd sq (x.getD (i + 1) default) (x.getD i default))).toNat)) Try.call169 (ev3 rfl rfl rfl) (fun w hs => stands_c (x.getD i default) (x.getD (i + 1) default) sq w)) rfl ?_
          refine x_y (v := .int .u64 ((b64 (ahd sq (x.getD (i + 1) default) (x.getD i default))).toNat)) (y_assign rfl) rfl ?_
          refine x_nil ?_
          refine thenS_n ?_
          refine wpS_any [2, 3, 4, 28, 29, 30] (by kernel_rfl) ?_
          refine anyS_takeF (i := 2) rfl (by kernel_rfl) (by kernel_rfl) (by kernel_rfl) (by kernel_rfl) (Yq.of (v := .slice a_1 l.length c_2) (y_move h0_7) rfl) ?_
          refine anyS_takeF (i := 3) rfl (by kernel_rfl) (by kernel_rfl) (by kernel_rfl) (by kernel_rfl) (Yq.of (v := .int .i64 (((i : Nat) : Int))) (y_move rfl) rfl) ?_
          refine anyS_takeF (i := 4) rfl (by kernel_rfl) (by kernel_rfl) (by kernel_rfl) (by kernel_rfl) (Yq.of (v := .int .i64 ((((i + 1) : Nat) : Int))) (y_add (a := ((i : Nat) : Int)) (b := 1) (c := (((i + 1) : Nat) : Int)) rfl rfl (wI (by omega) (by omega) (by omega))) rfl) ?_
          refine anyS_take (i := 0) rfl (by kernel_rfl) (by kernel_rfl) (by kernel_rfl) (by kernel_rfl) (Yq.of (v := .slice a_1 l.length c_2) (y_move h0_7) rfl) (.p .h .nil) ?_
          refine anyS_take (i := 1) rfl (by kernel_rfl) (by kernel_rfl) (by kernel_rfl) (by kernel_rfl) (Yq.of (v := .int .i64 (((i : Nat) : Int))) (y_move rfl) rfl) (.p .h .nil) ?_
          refine anyS_take (i := 5) rfl (by kernel_rfl) (by kernel_rfl) (by kernel_rfl) (by kernel_rfl) (Yq.of (v := .int .u64 ((b64 (ahd sq (x.getD (i + 1) default) (x.getD i default))).toNat)) (y_move rfl) rfl) (.p .h .nil) ?_
          refine anyS_take (i := 6) rfl (by kernel_rfl) (by kernel_rfl) (by kernel_rfl) (by kernel_rfl) (Yq.of (v := .slice a_1 l.length c_2) (y_move h0_7) rfl) (.p .h .nil) ?_
          refine anyS_take (i := 7) rfl (by kernel_rfl) (by kernel_rfl) (by kernel_rfl) (by kernel_rfl) (Yq.of (v := .int .i64 (((i : Nat) : Int))) (y_move rfl) rfl) (.p .h .nil) ?_
          refine anyS_take (i := 8) rfl (by kernel_rfl) (by kernel_rfl) (by kernel_rfl) (by kernel_rfl) (Yq.of (v := .int .i64 ((((i + 1) : Nat) : Int))) (y_add (a := ((i : Nat) : Int)) (b := 1) (c := (((i + 1) : Nat) : Int)) rfl rfl (wI (by omega) (by omega) (by omega))) rfl) (.p .h .nil) ?_
          refine anyS_take (i := 9) rfl (by kernel_rfl) (by kernel_rfl) (by kernel_rfl) (by kernel_rfl) (Yq.of (v := .pointer (some ⟨aB a_1, aO a_1 + (i + 1) * 4, none⟩)) (y_idx (o := (i + 1) * 4) rfl rfl Try.underlying69 Try.sizeOf23 (oslR .h) (by rw [fl_len recV_len]; (try simp only [List.length_set]); omega) (by decide) (by omega) (by omega) (by omega)) rfl) (.p .h .nil) ?_
          refine anyS_take (i := 10) rfl (by kernel_rfl) (by kernel_rfl) (by kernel_rfl) (by kernel_rfl) (Yq.of (v := .agg #[.bool ((x.getD (i + 1) default).dead), .int .i64 (((x.getD (i + 1) default).key).toInt), .int .i64 (((x.getD (i + 1) default).value).toInt), .int .i64 (((x.getD (i + 1) default).seq).toInt)]) (y_loadN (vs := recV (x.getD (i + 1) default)) rfl Try.isAgg23 Try.sizeOf23 (rdN (oslR .h) (fl_getN recV_len _ (i + 1) (by omega)))) rfl) (.p .h .nil) ?_
          refine anyS_take (i := 11) rfl (by kernel_rfl) (by kernel_rfl) (by kernel_rfl) (by kernel_rfl) (Yq.of (v := .slice a_1 l.length c_2) (y_move h0_7) rfl) (.p .h .nil) ?_
          refine anyS_take (i := 12) rfl (by kernel_rfl) (by kernel_rfl) (by kernel_rfl) (by kernel_rfl) (Yq.of (v := .int .i64 (((i : Nat) : Int))) (y_move rfl) rfl) (.p .h .nil) ?_
          refine anyS_take (i := 13) rfl (by kernel_rfl) (by kernel_rfl) (by kernel_rfl) (by kernel_rfl) (Yq.of (v := .pointer (some ⟨aB a_1, aO a_1 + i * 4, none⟩)) (y_idx (o := i * 4) rfl rfl Try.underlying69 Try.sizeOf23 (oslR .h) (by rw [fl_len recV_len]; (try simp only [List.length_set]); omega) (by decide) (by omega) (by omega) (by omega)) rfl) (.p .h .nil) ?_
          refine anyS_take (i := 14) rfl (by kernel_rfl) (by kernel_rfl) (by kernel_rfl) (by kernel_rfl) (Yq.of (v := .agg #[.bool ((x.getD i default).dead), .int .i64 (((x.getD i default).key).toInt), .int .i64 (((x.getD i default).value).toInt), .int .i64 (((x.getD i default).seq).toInt)]) (y_loadN (vs := recV (x.getD i default)) rfl Try.isAgg23 Try.sizeOf23 (rdN (oslR .h) (fl_getN recV_len _ i (by omega)))) rfl) (.p .h .nil) ?_
          refine anyS_take (i := 15) rfl (by kernel_rfl) (by kernel_rfl) (by kernel_rfl) (by kernel_rfl) (Yq.of (v := .agg #[.bool ((pickR (b64 (ahd sq (x.getD (i + 1) default) (x.getD i default))) (x.getD (i + 1) default) (x.getD i default)).dead), .int .i64 (((pickR (b64 (ahd sq (x.getD (i + 1) default) (x.getD i default))) (x.getD (i + 1) default) (x.getD i default)).key).toInt), .int .i64 (((pickR (b64 (ahd sq (x.getD (i + 1) default) (x.getD i default))) (x.getD (i + 1) default) (x.getD i default)).value).toInt), .int .i64 (((pickR (b64 (ahd sq (x.getD (i + 1) default) (x.getD i default))) (x.getD (i + 1) default) (x.getD i default)).seq).toInt)]) (y_call (args := #[.int .u64 ((b64 (ahd sq (x.getD (i + 1) default) (x.getD i default))).toNat), .agg #[.bool ((x.getD (i + 1) default).dead), .int .i64 (((x.getD (i + 1) default).key).toInt), .int .i64 (((x.getD (i + 1) default).value).toInt), .int .i64 (((x.getD (i + 1) default).seq).toInt)], .agg #[.bool ((x.getD i default).dead), .int .i64 (((x.getD i default).key).toInt), .int .i64 (((x.getD i default).value).toInt), .int .i64 (((x.getD i default).seq).toInt)]]) (v := .agg #[.bool ((pickR (b64 (ahd sq (x.getD (i + 1) default) (x.getD i default))) (x.getD (i + 1) default) (x.getD i default)).dead), .int .i64 (((pickR (b64 (ahd sq (x.getD (i + 1) default) (x.getD i default))) (x.getD (i + 1) default) (x.getD i default)).key).toInt), .int .i64 (((pickR (b64 (ahd sq (x.getD (i + 1) default) (x.getD i default))) (x.getD (i + 1) default) (x.getD i default)).value).toInt), .int .i64 (((pickR (b64 (ahd sq (x.getD (i + 1) default) (x.getD i default))) (x.getD (i + 1) default) (x.getD i default)).seq).toInt)]) Try.call47 (ev3 rfl rfl rfl) (fun w hs => pick_c (b64 (ahd sq (x.getD (i + 1) default) (x.getD i default))) (x.getD (i + 1) default) (x.getD i default) w)) rfl) (.p .h .nil) ?_
          refine anyS_take (i := 16) rfl (by kernel_rfl) (by kernel_rfl) (by kernel_rfl) (by kernel_rfl) (Yq.of (v := .int .u64 ((b64 (ahd sq (x.getD (i + 1) default) (x.getD i default))).toNat)) (y_move rfl) rfl) (.p .h .nil) ?_
          refine anyS_take (i := 17) rfl (by kernel_rfl) (by kernel_rfl) (by kernel_rfl) (by kernel_rfl) (Yq.of (v := .slice a_1 l.length c_2) (y_move h0_7) rfl) (.p .h .nil) ?_
          refine anyS_take (i := 18) rfl (by kernel_rfl) (by kernel_rfl) (by kernel_rfl) (by kernel_rfl) (Yq.of (v := .int .i64 (((i : Nat) : Int))) (y_move rfl) rfl) (.p .h .nil) ?_
          refine anyS_take (i := 19) rfl (by kernel_rfl) (by kernel_rfl) (by kernel_rfl) (by kernel_rfl) (Yq.of (v := .pointer (some ⟨aB a_1, aO a_1 + i * 4, none⟩)) (y_idx (o := i * 4) rfl rfl Try.underlying69 Try.sizeOf23 (oslR .h) (by rw [fl_len recV_len]; (try simp only [List.length_set]); omega) (by decide) (by omega) (by omega) (by omega)) rfl) (.p .h .nil) ?_
          refine anyS_take (i := 20) rfl (by kernel_rfl) (by kernel_rfl) (by kernel_rfl) (by kernel_rfl) (Yq.of (v := .agg #[.bool ((x.getD i default).dead), .int .i64 (((x.getD i default).key).toInt), .int .i64 (((x.getD i default).value).toInt), .int .i64 (((x.getD i default).seq).toInt)]) (y_loadN (vs := recV (x.getD i default)) rfl Try.isAgg23 Try.sizeOf23 (rdN (oslR .h) (fl_getN recV_len _ i (by omega)))) rfl) (.p .h .nil) ?_
          refine anyS_take (i := 21) rfl (by kernel_rfl) (by kernel_rfl) (by kernel_rfl) (by kernel_rfl) (Yq.of (v := .slice a_1 l.length c_2) (y_move h0_7) rfl) (.p .h .nil) ?_
          refine anyS_all (rs := [22]) (by kernel_rfl) (by simp) ?_
          intro i hi; obtain rfl := List.mem_singleton.1 hi; clear hi
          refine opS_0 rfl rfl ?_
          refine OpY.E (v := .int .i64 (((i : Nat) : Int))) (OpR.y (y_move rfl) _ _ _ _ _) ?_
          refine ⟨.inr (.p .h .nil), ?_⟩
          refine anyS_take (i := 23) rfl (by kernel_rfl) (by kernel_rfl) (by kernel_rfl) (by kernel_rfl) (Yq.of (v := .int .i64 ((((i + 1) : Nat) : Int))) (y_add (a := ((i : Nat) : Int)) (b := 1) (c := (((i + 1) : Nat) : Int)) rfl rfl (wI (by omega) (by omega) (by omega))) rfl) (.p .h .nil) ?_
          refine anyS_take (i := 24) rfl (by kernel_rfl) (by kernel_rfl) (by kernel_rfl) (by kernel_rfl) (Yq.of (v := .pointer (some ⟨aB a_1, aO a_1 + (i + 1) * 4, none⟩)) (y_idx (o := (i + 1) * 4) rfl rfl Try.underlying69 Try.sizeOf23 (oslR .h) (by rw [fl_len recV_len]; (try simp only [List.length_set]); omega) (by decide) (by omega) (by omega) (by omega)) rfl) (.p .h .nil) ?_
          refine anyS_take (i := 25) rfl (by kernel_rfl) (by kernel_rfl) (by kernel_rfl) (by kernel_rfl) (Yq.of (v := .agg #[.bool ((x.getD (i + 1) default).dead), .int .i64 (((x.getD (i + 1) default).key).toInt), .int .i64 (((x.getD (i + 1) default).value).toInt), .int .i64 (((x.getD (i + 1) default).seq).toInt)]) (y_loadN (vs := recV (x.getD (i + 1) default)) rfl Try.isAgg23 Try.sizeOf23 (rdN (oslR .h) (fl_getN recV_len _ (i + 1) (by omega)))) rfl) (.p .h .nil) ?_
          refine anyS_take (i := 26) rfl (by kernel_rfl) (by kernel_rfl) (by kernel_rfl) (by kernel_rfl) (Yq.of (v := .agg #[.bool ((pickR (b64 (ahd sq (x.getD (i + 1) default) (x.getD i default))) (x.getD i default) (x.getD (i + 1) default)).dead), .int .i64 (((pickR (b64 (ahd sq (x.getD (i + 1) default) (x.getD i default))) (x.getD i default) (x.getD (i + 1) default)).key).toInt), .int .i64 (((pickR (b64 (ahd sq (x.getD (i + 1) default) (x.getD i default))) (x.getD i default) (x.getD (i + 1) default)).value).toInt), .int .i64 (((pickR (b64 (ahd sq (x.getD (i + 1) default) (x.getD i default))) (x.getD i default) (x.getD (i + 1) default)).seq).toInt)]) (y_call (args := #[.int .u64 ((b64 (ahd sq (x.getD (i + 1) default) (x.getD i default))).toNat), .agg #[.bool ((x.getD i default).dead), .int .i64 (((x.getD i default).key).toInt), .int .i64 (((x.getD i default).value).toInt), .int .i64 (((x.getD i default).seq).toInt)], .agg #[.bool ((x.getD (i + 1) default).dead), .int .i64 (((x.getD (i + 1) default).key).toInt), .int .i64 (((x.getD (i + 1) default).value).toInt), .int .i64 (((x.getD (i + 1) default).seq).toInt)]]) (v := .agg #[.bool ((pickR (b64 (ahd sq (x.getD (i + 1) default) (x.getD i default))) (x.getD i default) (x.getD (i + 1) default)).dead), .int .i64 (((pickR (b64 (ahd sq (x.getD (i + 1) default) (x.getD i default))) (x.getD i default) (x.getD (i + 1) default)).key).toInt), .int .i64 (((pickR (b64 (ahd sq (x.getD (i + 1) default) (x.getD i default))) (x.getD i default) (x.getD (i + 1) default)).value).toInt), .int .i64 (((pickR (b64 (ahd sq (x.getD (i + 1) default) (x.getD i default))) (x.getD i default) (x.getD (i + 1) default)).seq).toInt)]) Try.call47 (ev3 rfl rfl rfl) (fun w hs => pick_c (b64 (ahd sq (x.getD (i + 1) default) (x.getD i default))) (x.getD i default) (x.getD (i + 1) default) w)) rfl) (.p .h .nil) ?_
          refine anyS_take (i := 27) rfl (by kernel_rfl) (by kernel_rfl) (by kernel_rfl) (by kernel_rfl) (Yq.of (v := .pointer (some ⟨aB a_1, aO a_1 + i * 4, none⟩)) (y_idx (o := i * 4) rfl rfl Try.underlying69 Try.sizeOf23 (oslR .h) (by rw [fl_len recV_len]; (try simp only [List.length_set]); omega) (by decide) (by omega) (by omega) (by omega)) rfl) (.p .h .nil) ?_
          refine anyS_all (rs := [28]) (by kernel_rfl) (by simp) ?_
          intro i hi; obtain rfl := List.mem_singleton.1 hi; clear hi
          refine opS_0 rfl rfl ?_
          refine e_storeL (enc := recV) (xs := x) (y := (pickR (b64 (ahd sq (x.getD (i + 1) default) (x.getD i default))) (x.getD (i + 1) default) (x.getD i default))) recV_len recV_one (by decide) rfl rfl rfl Try.sizeOf23 .h (by (try simp only [List.length_set]); omega) ?_
          refine ⟨.inl (by simp), ?_⟩
          refine anyS_all (rs := [29]) (by kernel_rfl) (by simp) ?_
          intro i hi; obtain rfl := List.mem_singleton.1 hi; clear hi
          refine opS_0 rfl rfl ?_
          refine OpY.E (v := .pointer (some ⟨aB a_1, aO a_1 + (i + 1) * 4, none⟩)) (OpR.y (y_idx (o := (i + 1) * 4) rfl rfl Try.underlying69 Try.sizeOf23 (oslR .h) (by rw [fl_len recV_len]; (try simp only [List.length_set]); omega) (by decide) (by omega) (by omega) (by omega)) _ _ _ _ _) ?_
          refine ⟨.inl (by simp), ?_⟩
          refine anyS_all (rs := [30]) (by kernel_rfl) (by simp) ?_
          intro i hi; obtain rfl := List.mem_singleton.1 hi; clear hi
          refine opS_0 rfl rfl ?_
          refine e_storeL (enc := recV) (xs := (x.set i (pickR (b64 (ahd sq (x.getD (i + 1) default) (x.getD i default))) (x.getD (i + 1) default) (x.getD i default)))) (y := (pickR (b64 (ahd sq (x.getD (i + 1) default) (x.getD i default))) (x.getD i default) (x.getD (i + 1) default))) recV_len recV_one (by decide) rfl rfl rfl Try.sizeOf23 .h (by (try simp only [List.length_set]); omega) ?_
          refine ⟨.inl (by simp), ?_⟩
          refine anyS_done (by kernel_rfl) ?_
          refine blockS_n ?_
          refine thenS_n ?_
          refine wpS_region ?_
          refine s_y (v := .int .i64 ((((i + 1) : Nat) : Int))) (y_add (a := ((i : Nat) : Int)) (b := 1) (c := (((i + 1) : Nat) : Int)) h21_7 rfl (wI (by omega) (by omega) (by omega))) rfl ?_
          refine s_y (v := .int .i64 ((((i + 1) : Nat) : Int))) (y_move rfl) rfl ?_
          refine wpL_nil ?_
          refine thenS_n ?_
          exact ⟨_, by omega, ⟨(i + 1), ((x.set i (pickR (b64 (ahd sq (x.getD (i + 1) default) (x.getD i default))) (x.getD (i + 1) default) (x.getD i default))).set (i + 1) (pickR (b64 (ahd sq (x.getD (i + 1) default) (x.getD i default))) (x.getD i default) (x.getD (i + 1) default))), rfl, by omega, (by (try simp only [List.length_set]); omega), (by rw [← (by assumption : srow sq r l.length i x = srow sq r l.length 0 y), srow_next (i := i) (by omega)]; first | rw [if_neg (by omega)] | rw [if_pos (by omega), swp_eq1] | rw [if_pos (by omega), swp_eq2]), rfl, h0_7, h1_7, h5_7, h11_7, h12_7, h20_7, rfl, .p .h .nil⟩⟩
      · -- decide ((((i : Nat) : Int) : Int) < (((l.length : Nat) : Int) - 1)) false
        have p8 := of_decide_eq_false b8
        refine wpS_exit ?_
        refine thenS_x ?_
        refine thenS_x ?_
        refine blockS_h ?_
        refine scopeS_n ?_
        refine blockS_n ?_
        refine thenS_n ?_
        refine wpS_region ?_
        refine s_y (v := .int .i64 ((((r + 1) : Nat) : Int))) (y_add (a := ((r : Nat) : Int)) (b := 1) (c := (((r + 1) : Nat) : Int)) h12_7 rfl (wI (by omega) (by omega) (by omega))) rfl ?_
        refine s_y (v := .int .i64 ((((r + 1) : Nat) : Int))) (y_move rfl) rfl ?_
        refine wpL_nil ?_
        refine thenS_n ?_
        exact ⟨_, by omega, ⟨(r + 1), x, rfl, by omega, by omega, (by rw [← (by assumption : srows sq l.length r y = srows sq l.length 0 l), srows_next (r := r) (by omega), ← (by assumption : srow sq r l.length i x = srow sq r l.length 0 y), srow_end (by omega)]), rfl, h0_7, h1_7, h11_7, rfl, .p .h .nil⟩⟩
  · -- decide (r < l.length) false
    have p5 := of_decide_eq_false b5
    refine wpS_exit ?_
    refine thenS_x ?_
    refine thenS_x ?_
    refine blockS_h ?_
    refine thenS_n ?_
    refine wpS_seq ?_
    refine wpS_region ?_
    refine s_y (v := .slice a_1 l.length c_2) (y_move h0_4) rfl ?_
    refine s_y (v := .slice a_1 l.length c_2) (y_assign rfl) rfl ?_
    refine wpL_nil ?_
    refine thenS_n ?_
    refine wpS_ret ?_
    refine scopeS_r ?_
    refine fin1 (M := [osl a_1 c_2 l.length 4 23 (y.flatMap recV)]) (v := .slice a_1 l.length c_2) (.inr rfl) (.p .h .nil) Try.results74 rfl ?_
    exact fun w' hs => ⟨(a_1, c_2), by rw [show (msort sq l) = y from (by unfold msort; rw [← (by assumption : srows sq l.length r y = srows sq l.length 0 l), srows_done (by omega)])]; simp only [slV, show y.length = l.length from by omega], by rw [show (msort sq l) = y from (by unfold msort; rw [← (by assumption : srows sq l.length r y = srows sq l.length 0 l), srows_done (by omega)])]; simp only [slR, show y.length = l.length from by omega]; exact hs, trivial⟩

end Go.Proofs.Ytldkjjnjdjfipaa
