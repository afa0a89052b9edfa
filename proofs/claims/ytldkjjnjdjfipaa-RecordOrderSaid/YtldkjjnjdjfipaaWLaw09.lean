/- Two laws of the records, walked. -/
import Derived.Test.YtldkjjnjdjfipaaWRec
import Derived.Test.YtldkjjnjdjfipaaP09
namespace Go.Proofs.Ytldkjjnjdjfipaa
open Go Go.RowKit
set_option linter.unusedVariables false
set_option linter.unusedSimpArgs false
set_option maxRecDepth 10000

theorem total_c (a b : Rec) (w : World) : Pure Try.prog 3 #[.agg #[.bool (a.dead), .int .i64 (a.key.toInt), .int .i64 (a.value.toInt), .int .i64 (a.seq.toInt)], .agg #[.bool (b.dead), .int .i64 (b.key.toInt), .int .i64 (b.value.toInt), .int .i64 (b.seq.toInt)]] w (.bool true) := by
  refine calls_S (n := 51) (σ0 := (upd (upd fr0 0 (.agg #[.bool (a.dead), .int .i64 (a.key.toInt), .int .i64 (a.value.toInt), .int .i64 (a.seq.toInt)])) 1 (.agg #[.bool (b.dead), .int .i64 (b.key.toInt), .int .i64 (b.value.toInt), .int .i64 (b.seq.toInt)]))) (D := []) (A := []) Try.func3 rfl Try.ntmps3 rfl (a2_fr _ _) (SH.start w) ?_
  refine wpS_seq ?_
  refine wpS_region ?_
  refine s_e rfl ?_
  refine e_box (v := .agg #[.bool (a.dead), .int .i64 (a.key.toInt), .int .i64 (a.value.toInt), .int .i64 (a.seq.toInt)]) (l := [.bool (a.dead), .int .i64 (a.key.toInt), .int .i64 (a.value.toInt), .int .i64 (a.seq.toInt)]) rfl rfl ?_
  intro b_1
  refine s_e rfl ?_
  refine e_box (v := .agg #[.bool (b.dead), .int .i64 (b.key.toInt), .int .i64 (b.value.toInt), .int .i64 (b.seq.toInt)]) (l := [.bool (b.dead), .int .i64 (b.key.toInt), .int .i64 (b.value.toInt), .int .i64 (b.seq.toInt)]) rfl rfl ?_
  intro b_2
  refine s_y (v := .bool false) (y_assign rfl) rfl ?_
  refine wpL_nil ?_
  refine thenS_n ?_
  refine wpS_seq ?_
  refine wpS_region ?_
  refine s_y (v := .pointer (some ⟨b_1, 0, none⟩)) (y_fieldAddr (o' := 0) rfl Try.underlying23 rfl Try.sizeOf4 (by decide) rfl) rfl ?_
  refine s_e0 ?_
  refine e_store (vs := [.bool false]) (l' := [.bool false, .int .i64 (a.key.toInt), .int .i64 (a.value.toInt), .int .i64 (a.seq.toInt)]) rfl rfl rfl rfl Try.sizeOf4 (.t .h) (Nat.le_of_ble_eq_true rfl) rfl ?_
  refine s_y (v := .pointer (some ⟨b_2, 0, none⟩)) (y_fieldAddr (o' := 0) rfl Try.underlying23 rfl Try.sizeOf4 (by decide) rfl) rfl ?_
  refine s_e0 ?_
  refine e_store (vs := [.bool false]) (l' := [.bool false, .int .i64 (b.key.toInt), .int .i64 (b.value.toInt), .int .i64 (b.seq.toInt)]) rfl rfl rfl rfl Try.sizeOf4 (.t .h) (Nat.le_of_ble_eq_true rfl) rfl ?_
  refine wpL_nil ?_
  refine thenS_n ?_
  refine wpS_seq ?_
  refine wpS_lex (by kernel_rfl) (by kernel_rfl) ?_
  refine x_y (v := .agg #[.bool false, .int .i64 (a.key.toInt), .int .i64 (a.value.toInt), .int .i64 (a.seq.toInt)]) (y_loadN (vs := [.bool false, .int .i64 (a.key.toInt), .int .i64 (a.value.toInt), .int .i64 (a.seq.toInt)]) rfl Try.isAgg23 Try.sizeOf23 (ownN (.t .h) rfl)) rfl ?_
  refine x_y (v := .agg #[.bool false, .int .i64 (b.key.toInt), .int .i64 (b.value.toInt), .int .i64 (b.seq.toInt)]) (y_loadN (vs := [.bool false, .int .i64 (b.key.toInt), .int .i64 (b.value.toInt), .int .i64 (b.seq.toInt)]) rfl Try.isAgg23 Try.sizeOf23 (ownN .h rfl)) rfl ?_
  refine x_y (v := .int .u64 ((b64 (before (Rec.mk false a.key a.value a.seq) (Rec.mk false b.key b.value b.seq))).toNat)) (y_call (args := #[.agg #[.bool false, .int .i64 (a.key.toInt), .int .i64 (a.value.toInt), .int .i64 (a.seq.toInt)], .agg #[.bool false, .int .i64 (b.key.toInt), .int .i64 (b.value.toInt), .int .i64 (b.seq.toInt)]]) (v := .int .u64 ((b64 (before (Rec.mk false a.key a.value a.seq) (Rec.mk false b.key b.value b.seq))).toNat)) Try.call42 (ev2 rfl rfl) (fun w hs => before_c (Rec.mk false a.key a.value a.seq) (Rec.mk false b.key b.value b.seq) w)) rfl ?_
  refine x_y (v := .agg #[.bool false, .int .i64 (b.key.toInt), .int .i64 (b.value.toInt), .int .i64 (b.seq.toInt)]) (y_loadN (vs := [.bool false, .int .i64 (b.key.toInt), .int .i64 (b.value.toInt), .int .i64 (b.seq.toInt)]) rfl Try.isAgg23 Try.sizeOf23 (ownN .h rfl)) rfl ?_
  refine x_y (v := .agg #[.bool false, .int .i64 (a.key.toInt), .int .i64 (a.value.toInt), .int .i64 (a.seq.toInt)]) (y_loadN (vs := [.bool false, .int .i64 (a.key.toInt), .int .i64 (a.value.toInt), .int .i64 (a.seq.toInt)]) rfl Try.isAgg23 Try.sizeOf23 (ownN (.t .h) rfl)) rfl ?_
  refine x_y (v := .int .u64 ((b64 (before (Rec.mk false b.key b.value b.seq) (Rec.mk false a.key a.value a.seq))).toNat)) (y_call (args := #[.agg #[.bool false, .int .i64 (b.key.toInt), .int .i64 (b.value.toInt), .int .i64 (b.seq.toInt)], .agg #[.bool false, .int .i64 (a.key.toInt), .int .i64 (a.value.toInt), .int .i64 (a.seq.toInt)]]) (v := .int .u64 ((b64 (before (Rec.mk false b.key b.value b.seq) (Rec.mk false a.key a.value a.seq))).toNat)) Try.call42 (ev2 rfl rfl) (fun w hs => before_c (Rec.mk false b.key b.value b.seq) (Rec.mk false a.key a.value a.seq) w)) rfl ?_
  refine x_y (v := .int .u64 ((((b64 (before (Rec.mk false a.key a.value a.seq) (Rec.mk false b.key b.value b.seq))) + (b64 (before (Rec.mk false b.key b.value b.seq) (Rec.mk false a.key a.value a.seq))))).toNat)) (y_add (a := (b64 (before (Rec.mk false a.key a.value a.seq) (Rec.mk false b.key b.value b.seq))).toNat) (b := (b64 (before (Rec.mk false b.key b.value b.seq) (Rec.mk false a.key a.value a.seq))).toNat) (c := (((b64 (before (Rec.mk false a.key a.value a.seq) (Rec.mk false b.key b.value b.seq))) + (b64 (before (Rec.mk false b.key b.value b.seq) (Rec.mk false a.key a.value a.seq))))).toNat) rfl rfl (u_add _ _)) rfl ?_
  refine x_y (v := .int .u64 ((((b64 (before (Rec.mk false a.key a.value a.seq) (Rec.mk false b.key b.value b.seq))) + (b64 (before (Rec.mk false b.key b.value b.seq) (Rec.mk false a.key a.value a.seq))))).toNat)) (y_assign rfl) rfl ?_
  refine x_nil ?_
  refine thenS_n ?_
  refine wpS_seq ?_
  refine wpS_lex (by kernel_rfl) (by kernel_rfl) ?_
  refine x_y (v := .agg #[.bool false, .int .i64 (a.key.toInt), .int .i64 (a.value.toInt), .int .i64 (a.seq.toInt)]) (y_loadN (vs := [.bool false, .int .i64 (a.key.toInt), .int .i64 (a.value.toInt), .int .i64 (a.seq.toInt)]) rfl Try.isAgg23 Try.sizeOf23 (ownN (.t .h) rfl)) rfl ?_
  refine x_y (v := .agg #[.bool false, .int .i64 (b.key.toInt), .int .i64 (b.value.toInt), .int .i64 (b.seq.toInt)]) (y_loadN (vs := [.bool false, .int .i64 (b.key.toInt), .int .i64 (b.value.toInt), .int .i64 (b.seq.toInt)]) rfl Try.isAgg23 Try.sizeOf23 (ownN .h rfl)) rfl ?_
  refine x_y (v := .int .u64 ((b64 (ahead (Rec.mk false a.key a.value a.seq) (Rec.mk false b.key b.value b.seq))).toNat)) (y_call (args := #[.agg #[.bool false, .int .i64 (a.key.toInt), .int .i64 (a.value.toInt), .int .i64 (a.seq.toInt)], .agg #[.bool false, .int .i64 (b.key.toInt), .int .i64 (b.value.toInt), .int .i64 (b.seq.toInt)]]) (v := .int .u64 ((b64 (ahead (Rec.mk false a.key a.value a.seq) (Rec.mk false b.key b.value b.seq))).toNat)) Try.call43 (ev2 rfl rfl) (fun w hs => ahead_c (Rec.mk false a.key a.value a.seq) (Rec.mk false b.key b.value b.seq) w)) rfl ?_
  refine x_y (v := .agg #[.bool false, .int .i64 (b.key.toInt), .int .i64 (b.value.toInt), .int .i64 (b.seq.toInt)]) (y_loadN (vs := [.bool false, .int .i64 (b.key.toInt), .int .i64 (b.value.toInt), .int .i64 (b.seq.toInt)]) rfl Try.isAgg23 Try.sizeOf23 (ownN .h rfl)) rfl ?_
  refine x_y (v := .agg #[.bool false, .int .i64 (a.key.toInt), .int .i64 (a.value.toInt), .int .i64 (a.seq.toInt)]) (y_loadN (vs := [.bool false, .int .i64 (a.key.toInt), .int .i64 (a.value.toInt), .int .i64 (a.seq.toInt)]) rfl Try.isAgg23 Try.sizeOf23 (ownN (.t .h) rfl)) rfl ?_
  refine x_y (v := .int .u64 ((b64 (ahead (Rec.mk false b.key b.value b.seq) (Rec.mk false a.key a.value a.seq))).toNat)) (y_call (args := #[.agg #[.bool false, .int .i64 (b.key.toInt), .int .i64 (b.value.toInt), .int .i64 (b.seq.toInt)], .agg #[.bool false, .int .i64 (a.key.toInt), .int .i64 (a.value.toInt), .int .i64 (a.seq.toInt)]]) (v := .int .u64 ((b64 (ahead (Rec.mk false b.key b.value b.seq) (Rec.mk false a.key a.value a.seq))).toNat)) Try.call43 (ev2 rfl rfl) (fun w hs => ahead_c (Rec.mk false b.key b.value b.seq) (Rec.mk false a.key a.value a.seq) w)) rfl ?_
  refine x_y (v := .int .u64 ((((b64 (ahead (Rec.mk false a.key a.value a.seq) (Rec.mk false b.key b.value b.seq))) + (b64 (ahead (Rec.mk false b.key b.value b.seq) (Rec.mk false a.key a.value a.seq))))).toNat)) (y_add (a := (b64 (ahead (Rec.mk false a.key a.value a.seq) (Rec.mk false b.key b.value b.seq))).toNat) (b := (b64 (ahead (Rec.mk false b.key b.value b.seq) (Rec.mk false a.key a.value a.seq))).toNat) (c := (((b64 (ahead (Rec.mk false a.key a.value a.seq) (Rec.mk false b.key b.value b.seq))) + (b64 (ahead (Rec.mk false b.key b.value b.seq) (Rec.mk false a.key a.value a.seq))))).toNat) rfl rfl (u_add _ _)) rfl ?_
  refine x_y (v := .int .u64 ((((b64 (ahead (Rec.mk false a.key a.value a.seq) (Rec.mk false b.key b.value b.seq))) + (b64 (ahead (Rec.mk false b.key b.value b.seq) (Rec.mk false a.key a.value a.seq))))).toNat)) (y_assign rfl) rfl ?_
  refine x_nil ?_
  refine thenS_n ?_
  refine wpS_seq ?_
  refine wpS_region ?_
  refine s_y (v := .bool true) (y_call (args := #[]) (v := .bool true) Try.call44 ev0 (fun w hs => awake09_c w)) rfl ?_
  refine s_y (v := .bool true) (y_move rfl) rfl ?_
  refine s_gy (y_move rfl) rfl rfl rfl rfl rfl rfl ?_
  refine s_gy (y_eql (a := (((b64 (before (Rec.mk false a.key a.value a.seq) (Rec.mk false b.key b.value b.seq))) + (b64 (before (Rec.mk false b.key b.value b.seq) (Rec.mk false a.key a.value a.seq))))).toNat) (b := 1) (c := decide (((b64 (before (Rec.mk false a.key a.value a.seq) (Rec.mk false b.key b.value b.seq))) + (b64 (before (Rec.mk false b.key b.value b.seq) (Rec.mk false a.key a.value a.seq)))) = 1)) rfl rfl (u_eqlL _ 1 (by decide))) rfl rfl rfl rfl rfl rfl ?_
  refine s_gy (y_fieldAddr (o' := 1) rfl Try.underlying23 rfl Try.sizeOf2 (by decide) rfl) rfl rfl rfl rfl rfl rfl ?_
  refine s_gy (y_load1 rfl Try.isAgg2 (own1 (.t .h) rfl)) rfl rfl rfl rfl rfl rfl ?_
  refine s_gy (y_fieldAddr (o' := 1) rfl Try.underlying23 rfl Try.sizeOf2 (by decide) rfl) rfl rfl rfl rfl rfl rfl ?_
  refine s_gy (y_load1 rfl Try.isAgg2 (own1 .h rfl)) rfl rfl rfl rfl rfl rfl ?_
  refine s_gy (y_neq (a := a.key.toInt) (b := b.key.toInt) (c := decide (a.key ≠ b.key)) rfl rfl (i_neq _ _)) rfl rfl rfl rfl rfl rfl ?_
  refine s_gy (y_move rfl) rfl rfl rfl rfl rfl rfl ?_
  rcases Bool.eq_false_or_eq_true (decide (a.key ≠ b.key)) with b3 | b3
  · -- decide (a.key ≠ b.key) True
    refine s_no rfl rfl rfl rfl (b' := decide (a.key ≠ b.key)) rfl b3 ?_
    refine s_no rfl rfl rfl rfl (b' := decide (a.key ≠ b.key)) rfl b3 ?_
    refine s_no rfl rfl rfl rfl (b' := decide (a.key ≠ b.key)) rfl b3 ?_
    refine s_no rfl rfl rfl rfl (b' := decide (a.key ≠ b.key)) rfl b3 ?_
    refine s_no rfl rfl rfl rfl (b' := decide (a.key ≠ b.key)) rfl b3 ?_
    refine s_gy (y_pickT (b := decide (a.key ≠ b.key)) (v := .bool true) rfl b3 rfl) rfl rfl rfl rfl rfl rfl ?_
    refine s_gy (y_eqlB (a := decide (((b64 (before (Rec.mk false a.key a.value a.seq) (Rec.mk false b.key b.value b.seq))) + (b64 (before (Rec.mk false b.key b.value b.seq) (Rec.mk false a.key a.value a.seq)))) = 1)) (b := true) Try.underlying4 rfl rfl rfl) rfl rfl rfl rfl rfl rfl ?_
    refine s_y (v := .bool ((decide (((b64 (before (Rec.mk false a.key a.value a.seq) (Rec.mk false b.key b.value b.seq))) + (b64 (before (Rec.mk false b.key b.value b.seq) (Rec.mk false a.key a.value a.seq)))) = 1)) == true)) (y_pickT (v := .bool ((decide (((b64 (before (Rec.mk false a.key a.value a.seq) (Rec.mk false b.key b.value b.seq))) + (b64 (before (Rec.mk false b.key b.value b.seq) (Rec.mk false a.key a.value a.seq)))) = 1)) == true)) rfl rfl rfl) rfl ?_
    refine s_y (v := .bool ((decide (((b64 (before (Rec.mk false a.key a.value a.seq) (Rec.mk false b.key b.value b.seq))) + (b64 (before (Rec.mk false b.key b.value b.seq) (Rec.mk false a.key a.value a.seq)))) = 1)) == true)) (y_move rfl) rfl ?_
    refine s_gy (y_move rfl) rfl rfl rfl rfl (b' := (decide (((b64 (before (Rec.mk false a.key a.value a.seq) (Rec.mk false b.key b.value b.seq))) + (b64 (before (Rec.mk false b.key b.value b.seq) (Rec.mk false a.key a.value a.seq)))) = 1)) == true) rfl (by rw [tot_before _ _ rfl rfl]; dsimp only; rw [b3]; simp) ?_
    refine s_gy (y_eql (a := (((b64 (ahead (Rec.mk false a.key a.value a.seq) (Rec.mk false b.key b.value b.seq))) + (b64 (ahead (Rec.mk false b.key b.value b.seq) (Rec.mk false a.key a.value a.seq))))).toNat) (b := 1) (c := decide (((b64 (ahead (Rec.mk false a.key a.value a.seq) (Rec.mk false b.key b.value b.seq))) + (b64 (ahead (Rec.mk false b.key b.value b.seq) (Rec.mk false a.key a.value a.seq)))) = 1)) rfl rfl (u_eqlL _ 1 (by decide))) rfl rfl rfl rfl (b' := (decide (((b64 (before (Rec.mk false a.key a.value a.seq) (Rec.mk false b.key b.value b.seq))) + (b64 (before (Rec.mk false b.key b.value b.seq) (Rec.mk false a.key a.value a.seq)))) = 1)) == true) rfl (by rw [tot_before _ _ rfl rfl]; dsimp only; rw [b3]; simp) ?_
    refine s_gy (y_fieldAddr (o' := 1) rfl Try.underlying23 rfl Try.sizeOf2 (by decide) rfl) rfl rfl rfl rfl (b' := (decide (((b64 (before (Rec.mk false a.key a.value a.seq) (Rec.mk false b.key b.value b.seq))) + (b64 (before (Rec.mk false b.key b.value b.seq) (Rec.mk false a.key a.value a.seq)))) = 1)) == true) rfl (by rw [tot_before _ _ rfl rfl]; dsimp only; rw [b3]; simp) ?_
    refine s_gy (y_load1 rfl Try.isAgg2 (own1 (.t .h) rfl)) rfl rfl rfl rfl (b' := (decide (((b64 (before (Rec.mk false a.key a.value a.seq) (Rec.mk false b.key b.value b.seq))) + (b64 (before (Rec.mk false b.key b.value b.seq) (Rec.mk false a.key a.value a.seq)))) = 1)) == true) rfl (by rw [tot_before _ _ rfl rfl]; dsimp only; rw [b3]; simp) ?_
    refine s_gy (y_fieldAddr (o' := 1) rfl Try.underlying23 rfl Try.sizeOf2 (by decide) rfl) rfl rfl rfl rfl (b' := (decide (((b64 (before (Rec.mk false a.key a.value a.seq) (Rec.mk false b.key b.value b.seq))) + (b64 (before (Rec.mk false b.key b.value b.seq) (Rec.mk false a.key a.value a.seq)))) = 1)) == true) rfl (by rw [tot_before _ _ rfl rfl]; dsimp only; rw [b3]; simp) ?_
    refine s_gy (y_load1 rfl Try.isAgg2 (own1 .h rfl)) rfl rfl rfl rfl (b' := (decide (((b64 (before (Rec.mk false a.key a.value a.seq) (Rec.mk false b.key b.value b.seq))) + (b64 (before (Rec.mk false b.key b.value b.seq) (Rec.mk false a.key a.value a.seq)))) = 1)) == true) rfl (by rw [tot_before _ _ rfl rfl]; dsimp only; rw [b3]; simp) ?_
    refine s_gy (y_neq (a := a.key.toInt) (b := b.key.toInt) (c := decide (a.key ≠ b.key)) rfl rfl (i_neq _ _)) rfl rfl rfl rfl (b' := (decide (((b64 (before (Rec.mk false a.key a.value a.seq) (Rec.mk false b.key b.value b.seq))) + (b64 (before (Rec.mk false b.key b.value b.seq) (Rec.mk false a.key a.value a.seq)))) = 1)) == true) rfl (by rw [tot_before _ _ rfl rfl]; dsimp only; rw [b3]; simp) ?_
    refine s_gy (y_eqlB (a := decide (((b64 (ahead (Rec.mk false a.key a.value a.seq) (Rec.mk false b.key b.value b.seq))) + (b64 (ahead (Rec.mk false b.key b.value b.seq) (Rec.mk false a.key a.value a.seq)))) = 1)) (b := decide (a.key ≠ b.key)) Try.underlying4 rfl rfl rfl) rfl rfl rfl rfl (b' := (decide (((b64 (before (Rec.mk false a.key a.value a.seq) (Rec.mk false b.key b.value b.seq))) + (b64 (before (Rec.mk false b.key b.value b.seq) (Rec.mk false a.key a.value a.seq)))) = 1)) == true) rfl (by rw [tot_before _ _ rfl rfl]; dsimp only; rw [b3]; simp) ?_
    refine s_y (v := .bool ((decide (((b64 (ahead (Rec.mk false a.key a.value a.seq) (Rec.mk false b.key b.value b.seq))) + (b64 (ahead (Rec.mk false b.key b.value b.seq) (Rec.mk false a.key a.value a.seq)))) = 1)) == (decide (a.key ≠ b.key)))) (y_pickT (b := (decide (((b64 (before (Rec.mk false a.key a.value a.seq) (Rec.mk false b.key b.value b.seq))) + (b64 (before (Rec.mk false b.key b.value b.seq) (Rec.mk false a.key a.value a.seq)))) = 1)) == true) (v := .bool ((decide (((b64 (ahead (Rec.mk false a.key a.value a.seq) (Rec.mk false b.key b.value b.seq))) + (b64 (ahead (Rec.mk false b.key b.value b.seq) (Rec.mk false a.key a.value a.seq)))) = 1)) == (decide (a.key ≠ b.key)))) rfl (by rw [tot_before _ _ rfl rfl]; dsimp only; rw [b3]; simp) rfl) rfl ?_
    refine s_y (v := .bool ((decide (((b64 (ahead (Rec.mk false a.key a.value a.seq) (Rec.mk false b.key b.value b.seq))) + (b64 (ahead (Rec.mk false b.key b.value b.seq) (Rec.mk false a.key a.value a.seq)))) = 1)) == (decide (a.key ≠ b.key)))) (y_assign rfl) rfl ?_
    refine wpL_nil ?_
    refine thenS_n ?_
    refine wpS_ret ?_
    refine fin1 (v := .bool ((decide (((b64 (ahead (Rec.mk false a.key a.value a.seq) (Rec.mk false b.key b.value b.seq))) + (b64 (ahead (Rec.mk false b.key b.value b.seq) (Rec.mk false a.key a.value a.seq)))) = 1)) == (decide (a.key ≠ b.key)))) (.inr rfl) .nil Try.results3 rfl ?_
    exact fun w' hs => ⟨congrArg (fun b => Ending.returned (Value.bool b)) (show ((decide (((b64 (ahead (Rec.mk false a.key a.value a.seq) (Rec.mk false b.key b.value b.seq))) + (b64 (ahead (Rec.mk false b.key b.value b.seq) (Rec.mk false a.key a.value a.seq)))) = 1)) == (decide (a.key ≠ b.key))) = true from (by rw [tot_ahead _ _ rfl rfl]; simp)), hs⟩
  · -- decide (a.key ≠ b.key) False
    refine s_gy (y_fieldAddr (o' := 3) rfl Try.underlying23 rfl Try.sizeOf2 (by decide) rfl) rfl rfl rfl rfl (b' := decide (a.key ≠ b.key)) rfl b3 ?_
    refine s_gy (y_load1 rfl Try.isAgg2 (own1 (.t .h) rfl)) rfl rfl rfl rfl (b' := decide (a.key ≠ b.key)) rfl b3 ?_
    refine s_gy (y_fieldAddr (o' := 3) rfl Try.underlying23 rfl Try.sizeOf2 (by decide) rfl) rfl rfl rfl rfl (b' := decide (a.key ≠ b.key)) rfl b3 ?_
    refine s_gy (y_load1 rfl Try.isAgg2 (own1 .h rfl)) rfl rfl rfl rfl (b' := decide (a.key ≠ b.key)) rfl b3 ?_
    refine s_gy (y_neq (a := a.seq.toInt) (b := b.seq.toInt) (c := decide (a.seq ≠ b.seq)) rfl rfl (i_neq _ _)) rfl rfl rfl rfl (b' := decide (a.key ≠ b.key)) rfl b3 ?_
    refine s_gy (y_pickF (b := decide (a.key ≠ b.key)) (v := .bool (decide (a.seq ≠ b.seq))) rfl b3 rfl) rfl rfl rfl rfl rfl rfl ?_
    refine s_gy (y_eqlB (a := decide (((b64 (before (Rec.mk false a.key a.value a.seq) (Rec.mk false b.key b.value b.seq))) + (b64 (before (Rec.mk false b.key b.value b.seq) (Rec.mk false a.key a.value a.seq)))) = 1)) (b := decide (a.seq ≠ b.seq)) Try.underlying4 rfl rfl rfl) rfl rfl rfl rfl rfl rfl ?_
    refine s_y (v := .bool ((decide (((b64 (before (Rec.mk false a.key a.value a.seq) (Rec.mk false b.key b.value b.seq))) + (b64 (before (Rec.mk false b.key b.value b.seq) (Rec.mk false a.key a.value a.seq)))) = 1)) == (decide (a.seq ≠ b.seq)))) (y_pickT (v := .bool ((decide (((b64 (before (Rec.mk false a.key a.value a.seq) (Rec.mk false b.key b.value b.seq))) + (b64 (before (Rec.mk false b.key b.value b.seq) (Rec.mk false a.key a.value a.seq)))) = 1)) == (decide (a.seq ≠ b.seq)))) rfl rfl rfl) rfl ?_
    refine s_y (v := .bool ((decide (((b64 (before (Rec.mk false a.key a.value a.seq) (Rec.mk false b.key b.value b.seq))) + (b64 (before (Rec.mk false b.key b.value b.seq) (Rec.mk false a.key a.value a.seq)))) = 1)) == (decide (a.seq ≠ b.seq)))) (y_move rfl) rfl ?_
    refine s_gy (y_move rfl) rfl rfl rfl rfl (b' := (decide (((b64 (before (Rec.mk false a.key a.value a.seq) (Rec.mk false b.key b.value b.seq))) + (b64 (before (Rec.mk false b.key b.value b.seq) (Rec.mk false a.key a.value a.seq)))) = 1)) == (decide (a.seq ≠ b.seq))) rfl (by rw [tot_before _ _ rfl rfl]; dsimp only; rw [b3]; simp) ?_
    refine s_gy (y_eql (a := (((b64 (ahead (Rec.mk false a.key a.value a.seq) (Rec.mk false b.key b.value b.seq))) + (b64 (ahead (Rec.mk false b.key b.value b.seq) (Rec.mk false a.key a.value a.seq))))).toNat) (b := 1) (c := decide (((b64 (ahead (Rec.mk false a.key a.value a.seq) (Rec.mk false b.key b.value b.seq))) + (b64 (ahead (Rec.mk false b.key b.value b.seq) (Rec.mk false a.key a.value a.seq)))) = 1)) rfl rfl (u_eqlL _ 1 (by decide))) rfl rfl rfl rfl (b' := (decide (((b64 (before (Rec.mk false a.key a.value a.seq) (Rec.mk false b.key b.value b.seq))) + (b64 (before (Rec.mk false b.key b.value b.seq) (Rec.mk false a.key a.value a.seq)))) = 1)) == (decide (a.seq ≠ b.seq))) rfl (by rw [tot_before _ _ rfl rfl]; dsimp only; rw [b3]; simp) ?_
    refine s_gy (y_fieldAddr (o' := 1) rfl Try.underlying23 rfl Try.sizeOf2 (by decide) rfl) rfl rfl rfl rfl (b' := (decide (((b64 (before (Rec.mk false a.key a.value a.seq) (Rec.mk false b.key b.value b.seq))) + (b64 (before (Rec.mk false b.key b.value b.seq) (Rec.mk false a.key a.value a.seq)))) = 1)) == (decide (a.seq ≠ b.seq))) rfl (by rw [tot_before _ _ rfl rfl]; dsimp only; rw [b3]; simp) ?_
    refine s_gy (y_load1 rfl Try.isAgg2 (own1 (.t .h) rfl)) rfl rfl rfl rfl (b' := (decide (((b64 (before (Rec.mk false a.key a.value a.seq) (Rec.mk false b.key b.value b.seq))) + (b64 (before (Rec.mk false b.key b.value b.seq) (Rec.mk false a.key a.value a.seq)))) = 1)) == (decide (a.seq ≠ b.seq))) rfl (by rw [tot_before _ _ rfl rfl]; dsimp only; rw [b3]; simp) ?_
    refine s_gy (y_fieldAddr (o' := 1) rfl Try.underlying23 rfl Try.sizeOf2 (by decide) rfl) rfl rfl rfl rfl (b' := (decide (((b64 (before (Rec.mk false a.key a.value a.seq) (Rec.mk false b.key b.value b.seq))) + (b64 (before (Rec.mk false b.key b.value b.seq) (Rec.mk false a.key a.value a.seq)))) = 1)) == (decide (a.seq ≠ b.seq))) rfl (by rw [tot_before _ _ rfl rfl]; dsimp only; rw [b3]; simp) ?_
    refine s_gy (y_load1 rfl Try.isAgg2 (own1 .h rfl)) rfl rfl rfl rfl (b' := (decide (((b64 (before (Rec.mk false a.key a.value a.seq) (Rec.mk false b.key b.value b.seq))) + (b64 (before (Rec.mk false b.key b.value b.seq) (Rec.mk false a.key a.value a.seq)))) = 1)) == (decide (a.seq ≠ b.seq))) rfl (by rw [tot_before _ _ rfl rfl]; dsimp only; rw [b3]; simp) ?_
    refine s_gy (y_neq (a := a.key.toInt) (b := b.key.toInt) (c := decide (a.key ≠ b.key)) rfl rfl (i_neq _ _)) rfl rfl rfl rfl (b' := (decide (((b64 (before (Rec.mk false a.key a.value a.seq) (Rec.mk false b.key b.value b.seq))) + (b64 (before (Rec.mk false b.key b.value b.seq) (Rec.mk false a.key a.value a.seq)))) = 1)) == (decide (a.seq ≠ b.seq))) rfl (by rw [tot_before _ _ rfl rfl]; dsimp only; rw [b3]; simp) ?_
    refine s_gy (y_eqlB (a := decide (((b64 (ahead (Rec.mk false a.key a.value a.seq) (Rec.mk false b.key b.value b.seq))) + (b64 (ahead (Rec.mk false b.key b.value b.seq) (Rec.mk false a.key a.value a.seq)))) = 1)) (b := decide (a.key ≠ b.key)) Try.underlying4 rfl rfl rfl) rfl rfl rfl rfl (b' := (decide (((b64 (before (Rec.mk false a.key a.value a.seq) (Rec.mk false b.key b.value b.seq))) + (b64 (before (Rec.mk false b.key b.value b.seq) (Rec.mk false a.key a.value a.seq)))) = 1)) == (decide (a.seq ≠ b.seq))) rfl (by rw [tot_before _ _ rfl rfl]; dsimp only; rw [b3]; simp) ?_
    refine s_y (v := .bool ((decide (((b64 (ahead (Rec.mk false a.key a.value a.seq) (Rec.mk false b.key b.value b.seq))) + (b64 (ahead (Rec.mk false b.key b.value b.seq) (Rec.mk false a.key a.value a.seq)))) = 1)) == (decide (a.key ≠ b.key)))) (y_pickT (b := (decide (((b64 (before (Rec.mk false a.key a.value a.seq) (Rec.mk false b.key b.value b.seq))) + (b64 (before (Rec.mk false b.key b.value b.seq) (Rec.mk false a.key a.value a.seq)))) = 1)) == (decide (a.seq ≠ b.seq))) (v := .bool ((decide (((b64 (ahead (Rec.mk false a.key a.value a.seq) (Rec.mk false b.key b.value b.seq))) + (b64 (ahead (Rec.mk false b.key b.value b.seq) (Rec.mk false a.key a.value a.seq)))) = 1)) == (decide (a.key ≠ b.key)))) rfl (by rw [tot_before _ _ rfl rfl]; dsimp only; rw [b3]; simp) rfl) rfl ?_
    refine s_y (v := .bool ((decide (((b64 (ahead (Rec.mk false a.key a.value a.seq) (Rec.mk false b.key b.value b.seq))) + (b64 (ahead (Rec.mk false b.key b.value b.seq) (Rec.mk false a.key a.value a.seq)))) = 1)) == (decide (a.key ≠ b.key)))) (y_assign rfl) rfl ?_
    refine wpL_nil ?_
    refine thenS_n ?_
    refine wpS_ret ?_
    refine fin1 (v := .bool ((decide (((b64 (ahead (Rec.mk false a.key a.value a.seq) (Rec.mk false b.key b.value b.seq))) + (b64 (ahead (Rec.mk false b.key b.value b.seq) (Rec.mk false a.key a.value a.seq)))) = 1)) == (decide (a.key ≠ b.key)))) (.inr rfl) .nil Try.results3 rfl ?_
    exact fun w' hs => ⟨congrArg (fun b => Ending.returned (Value.bool b)) (show ((decide (((b64 (ahead (Rec.mk false a.key a.value a.seq) (Rec.mk false b.key b.value b.seq))) + (b64 (ahead (Rec.mk false b.key b.value b.seq) (Rec.mk false a.key a.value a.seq)))) = 1)) == (decide (a.key ≠ b.key))) = true from (by rw [tot_ahead _ _ rfl rfl]; simp)), hs⟩

theorem order_c (a b c : Rec) (n : UInt64) (w : World) : Pure Try.prog 4 #[.agg #[.bool (a.dead), .int .i64 (a.key.toInt), .int .i64 (a.value.toInt), .int .i64 (a.seq.toInt)], .agg #[.bool (b.dead), .int .i64 (b.key.toInt), .int .i64 (b.value.toInt), .int .i64 (b.seq.toInt)], .agg #[.bool (c.dead), .int .i64 (c.key.toInt), .int .i64 (c.value.toInt), .int .i64 (c.seq.toInt)], .int .u64 (n.toNat)] w (.bool true) := by
  refine calls_S (n := 89) (σ0 := (upd (upd (upd (upd fr0 0 (.agg #[.bool (a.dead), .int .i64 (a.key.toInt), .int .i64 (a.value.toInt), .int .i64 (a.seq.toInt)])) 1 (.agg #[.bool (b.dead), .int .i64 (b.key.toInt), .int .i64 (b.value.toInt), .int .i64 (b.seq.toInt)])) 2 (.agg #[.bool (c.dead), .int .i64 (c.key.toInt), .int .i64 (c.value.toInt), .int .i64 (c.seq.toInt)])) 3 (.int .u64 (n.toNat)))) (D := []) (A := []) Try.func4 rfl Try.ntmps4 rfl (a4_fr _ _ _ _) (SH.start w) ?_
  refine wpS_seq ?_
  refine wpS_region ?_
  refine s_e rfl ?_
  refine e_box (v := .agg #[.bool (a.dead), .int .i64 (a.key.toInt), .int .i64 (a.value.toInt), .int .i64 (a.seq.toInt)]) (l := [.bool (a.dead), .int .i64 (a.key.toInt), .int .i64 (a.value.toInt), .int .i64 (a.seq.toInt)]) rfl rfl ?_
  intro b_1
  refine s_e rfl ?_
  refine e_box (v := .agg #[.bool (b.dead), .int .i64 (b.key.toInt), .int .i64 (b.value.toInt), .int .i64 (b.seq.toInt)]) (l := [.bool (b.dead), .int .i64 (b.key.toInt), .int .i64 (b.value.toInt), .int .i64 (b.seq.toInt)]) rfl rfl ?_
  intro b_2
  refine s_e rfl ?_
  refine e_box (v := .agg #[.bool (c.dead), .int .i64 (c.key.toInt), .int .i64 (c.value.toInt), .int .i64 (c.seq.toInt)]) (l := [.bool (c.dead), .int .i64 (c.key.toInt), .int .i64 (c.value.toInt), .int .i64 (c.seq.toInt)]) rfl rfl ?_
  intro b_3
  refine s_y (v := .bool false) (y_assign rfl) rfl ?_
  refine wpL_nil ?_
  refine thenS_n ?_
  refine wpS_seq ?_
  refine wpS_seq ?_
  refine wpS_lex (by kernel_rfl) (by kernel_rfl) ?_
  refine x_y (v := .bool true) (y_call (args := #[]) (v := .bool true) Try.call44 ev0 (fun w hs => awake09_c w)) rfl ?_
  refine x_y (v := .bool false) (y_notK (b := true) (c := false) rfl rfl) rfl ?_
  refine x_y (v := .bool false) (y_move rfl) rfl ?_
  refine x_gy (y_loadN (vs := [.bool (a.dead), .int .i64 (a.key.toInt), .int .i64 (a.value.toInt), .int .i64 (a.seq.toInt)]) rfl Try.isAgg23 Try.sizeOf23 (ownN (.t (.t .h)) rfl)) rfl rfl rfl rfl rfl rfl ?_
  refine x_gy (y_loadN (vs := [.bool (b.dead), .int .i64 (b.key.toInt), .int .i64 (b.value.toInt), .int .i64 (b.seq.toInt)]) rfl Try.isAgg23 Try.sizeOf23 (ownN (.t .h) rfl)) rfl rfl rfl rfl rfl rfl ?_
  refine x_gy (y_call (args := #[.agg #[.bool (a.dead), .int .i64 (a.key.toInt), .int .i64 (a.value.toInt), .int .i64 (a.seq.toInt)], .agg #[.bool (b.dead), .int .i64 (b.key.toInt), .int .i64 (b.value.toInt), .int .i64 (b.seq.toInt)]]) (v := .int .u64 ((b64 (before a b)).toNat)) Try.call42 (ev2 rfl rfl) (fun w hs => before_c a b w)) rfl rfl rfl rfl rfl rfl ?_
  refine x_gy (y_loadN (vs := [.bool (a.dead), .int .i64 (a.key.toInt), .int .i64 (a.value.toInt), .int .i64 (a.seq.toInt)]) rfl Try.isAgg23 Try.sizeOf23 (ownN (.t (.t .h)) rfl)) rfl rfl rfl rfl rfl rfl ?_
  refine x_gy (y_loadN (vs := [.bool (b.dead), .int .i64 (b.key.toInt), .int .i64 (b.value.toInt), .int .i64 (b.seq.toInt)]) rfl Try.isAgg23 Try.sizeOf23 (ownN (.t .h) rfl)) rfl rfl rfl rfl rfl rfl ?_
  refine x_gy (y_call (args := #[.agg #[.bool (a.dead), .int .i64 (a.key.toInt), .int .i64 (a.value.toInt), .int .i64 (a.seq.toInt)], .agg #[.bool (b.dead), .int .i64 (b.key.toInt), .int .i64 (b.value.toInt), .int .i64 (b.seq.toInt)]]) (v := .int .u64 ((b64 (before a b)).toNat)) Try.call45 (ev2 rfl rfl) (fun w hs => refbefore_c a b w)) rfl rfl rfl rfl rfl rfl ?_
  refine x_gy (y_neq (a := (b64 (before a b)).toNat) (b := (b64 (before a b)).toNat) (c := decide ((b64 (before a b)) ≠ (b64 (before a b)))) rfl rfl (u_neq _ _)) rfl rfl rfl rfl rfl rfl ?_
  refine x_y (v := .bool (decide ((b64 (before a b)) ≠ (b64 (before a b))))) (y_pickF (v := .bool (decide ((b64 (before a b)) ≠ (b64 (before a b))))) rfl rfl rfl) rfl ?_
  refine x_y (v := .bool (decide ((b64 (before a b)) ≠ (b64 (before a b))))) (y_move rfl) rfl ?_
  refine x_gy (y_loadN (vs := [.bool (a.dead), .int .i64 (a.key.toInt), .int .i64 (a.value.toInt), .int .i64 (a.seq.toInt)]) rfl Try.isAgg23 Try.sizeOf23 (ownN (.t (.t .h)) rfl)) rfl rfl rfl rfl (b' := decide ((b64 (before a b)) ≠ (b64 (before a b)))) rfl (by simp) ?_
  refine x_gy (y_loadN (vs := [.bool (b.dead), .int .i64 (b.key.toInt), .int .i64 (b.value.toInt), .int .i64 (b.seq.toInt)]) rfl Try.isAgg23 Try.sizeOf23 (ownN (.t .h) rfl)) rfl rfl rfl rfl (b' := decide ((b64 (before a b)) ≠ (b64 (before a b)))) rfl (by simp) ?_
  refine x_gy (y_call (args := #[.agg #[.bool (a.dead), .int .i64 (a.key.toInt), .int .i64 (a.value.toInt), .int .i64 (a.seq.toInt)], .agg #[.bool (b.dead), .int .i64 (b.key.toInt), .int .i64 (b.value.toInt), .int .i64 (b.seq.toInt)]]) (v := .int .u64 ((b64 (ahead a b)).toNat)) Try.call43 (ev2 rfl rfl) (fun w hs => ahead_c a b w)) rfl rfl rfl rfl (b' := decide ((b64 (before a b)) ≠ (b64 (before a b)))) rfl (by simp) ?_
  refine x_gy (y_loadN (vs := [.bool (a.dead), .int .i64 (a.key.toInt), .int .i64 (a.value.toInt), .int .i64 (a.seq.toInt)]) rfl Try.isAgg23 Try.sizeOf23 (ownN (.t (.t .h)) rfl)) rfl rfl rfl rfl (b' := decide ((b64 (before a b)) ≠ (b64 (before a b)))) rfl (by simp) ?_
  refine x_gy (y_loadN (vs := [.bool (b.dead), .int .i64 (b.key.toInt), .int .i64 (b.value.toInt), .int .i64 (b.seq.toInt)]) rfl Try.isAgg23 Try.sizeOf23 (ownN (.t .h) rfl)) rfl rfl rfl rfl (b' := decide ((b64 (before a b)) ≠ (b64 (before a b)))) rfl (by simp) ?_
  refine x_gy (y_call (args := #[.agg #[.bool (a.dead), .int .i64 (a.key.toInt), .int .i64 (a.value.toInt), .int .i64 (a.seq.toInt)], .agg #[.bool (b.dead), .int .i64 (b.key.toInt), .int .i64 (b.value.toInt), .int .i64 (b.seq.toInt)]]) (v := .int .u64 ((b64 (ahead a b)).toNat)) Try.call46 (ev2 rfl rfl) (fun w hs => refahead_c a b w)) rfl rfl rfl rfl (b' := decide ((b64 (before a b)) ≠ (b64 (before a b)))) rfl (by simp) ?_
  refine x_gy (y_neq (a := (b64 (ahead a b)).toNat) (b := (b64 (ahead a b)).toNat) (c := decide ((b64 (ahead a b)) ≠ (b64 (ahead a b)))) rfl rfl (u_neq _ _)) rfl rfl rfl rfl (b' := decide ((b64 (before a b)) ≠ (b64 (before a b)))) rfl (by simp) ?_
  refine x_y (v := .bool (decide ((b64 (ahead a b)) ≠ (b64 (ahead a b))))) (y_pickF (b := decide ((b64 (before a b)) ≠ (b64 (before a b)))) (v := .bool (decide ((b64 (ahead a b)) ≠ (b64 (ahead a b))))) rfl (by simp) rfl) rfl ?_
  refine x_nil ?_
  refine thenS_n ?_
  refine wpS_cond_F (t := decide ((b64 (ahead a b)) ≠ (b64 (ahead a b)))) rfl (by simp) ?_
  refine wpS_skip ?_
  refine thenS_n ?_
  refine wpS_seq ?_
  refine wpS_region ?_
  refine s_y (v := .agg #[.bool (b.dead), .int .i64 (b.key.toInt), .int .i64 (b.value.toInt), .int .i64 (b.seq.toInt)]) (y_loadN (vs := [.bool (b.dead), .int .i64 (b.key.toInt), .int .i64 (b.value.toInt), .int .i64 (b.seq.toInt)]) rfl Try.isAgg23 Try.sizeOf23 (ownN (.t .h) rfl)) rfl ?_
  refine s_e rfl ?_
  refine e_alloc (l := [.bool false, .int .i64 0, .int .i64 0, .int .i64 0]) Try.zeroValue23 rfl ?_
  intro b_4
  refine s_e0 ?_
  refine e_store (vs := [.bool (b.dead), .int .i64 (b.key.toInt), .int .i64 (b.value.toInt), .int .i64 (b.seq.toInt)]) (l' := [.bool (b.dead), .int .i64 (b.key.toInt), .int .i64 (b.value.toInt), .int .i64 (b.seq.toInt)]) rfl rfl rfl rfl Try.sizeOf23 .h (Nat.le_of_ble_eq_true rfl) rfl ?_
  refine wpL_nil ?_
  refine thenS_n ?_
  refine wpS_seq ?_
  refine wpS_seq ?_
  refine wpS_region ?_
  refine s_y (v := .int .u64 (n.toNat)) (y_move rfl) rfl ?_
  refine s_y (v := .int .u64 (((n &&& 1)).toNat)) (y_and (a := n.toNat) (b := 1) (c := ((n &&& 1)).toNat) rfl rfl (u_andL _ 1 (by decide))) rfl ?_
  refine s_y (v := .bool (decide ((n &&& 1) = 1))) (y_eql (a := ((n &&& 1)).toNat) (b := 1) (c := decide ((n &&& 1) = 1)) rfl rfl (u_eqlL _ 1 (by decide))) rfl ?_
  refine wpL_nil ?_
  refine thenS_n ?_
  refine wpS_cond (t := decide ((n &&& 1) = 1)) rfl (fun b5 => ?_) (fun b5 => ?_)
  · -- decide ((n &&& 1) = 1) true
    refine wpS_region ?_
    refine s_y (v := .agg #[.bool (a.dead), .int .i64 (a.key.toInt), .int .i64 (a.value.toInt), .int .i64 (a.seq.toInt)]) (y_loadN (vs := [.bool (a.dead), .int .i64 (a.key.toInt), .int .i64 (a.value.toInt), .int .i64 (a.seq.toInt)]) rfl Try.isAgg23 Try.sizeOf23 (ownN (.t (.t (.t .h))) rfl)) rfl ?_
    refine s_e0 ?_
    refine e_store (vs := [.bool (a.dead), .int .i64 (a.key.toInt), .int .i64 (a.value.toInt), .int .i64 (a.seq.toInt)]) (l' := [.bool (a.dead), .int .i64 (a.key.toInt), .int .i64 (a.value.toInt), .int .i64 (a.seq.toInt)]) rfl rfl rfl rfl Try.sizeOf23 .h (Nat.le_of_ble_eq_true rfl) rfl ?_
    refine wpL_nil ?_
    refine thenS_n ?_
    refine wpS_seq ?_
    refine wpS_seq ?_
    refine wpS_lex (by kernel_rfl) (by kernel_rfl) ?_
    refine x_y (v := .int .u64 (n.toNat)) (y_move rfl) rfl ?_
    refine x_y (v := .agg #[.bool (a.dead), .int .i64 (a.key.toInt), .int .i64 (a.value.toInt), .int .i64 (a.seq.toInt)]) (y_loadN (vs := [.bool (a.dead), .int .i64 (a.key.toInt), .int .i64 (a.value.toInt), .int .i64 (a.seq.toInt)]) rfl Try.isAgg23 Try.sizeOf23 (ownN (.t (.t (.t .h))) rfl)) rfl ?_
    refine x_y (v := .agg #[.bool (b.dead), .int .i64 (b.key.toInt), .int .i64 (b.value.toInt), .int .i64 (b.seq.toInt)]) (y_loadN (vs := [.bool (b.dead), .int .i64 (b.key.toInt), .int .i64 (b.value.toInt), .int .i64 (b.seq.toInt)]) rfl Try.isAgg23 Try.sizeOf23 (ownN (.t (.t .h)) rfl)) rfl ?_
    refine x_y (v := .agg #[.bool ((pickR n a b).dead), .int .i64 (((pickR n a b).key).toInt), .int .i64 (((pickR n a b).value).toInt), .int .i64 (((pickR n a b).seq).toInt)]) (y_call (args := #[.int .u64 (n.toNat), .agg #[.bool (a.dead), .int .i64 (a.key.toInt), .int .i64 (a.value.toInt), .int .i64 (a.seq.toInt)], .agg #[.bool (b.dead), .int .i64 (b.key.toInt), .int .i64 (b.value.toInt), .int .i64 (b.seq.toInt)]]) (v := .agg #[.bool ((pickR n a b).dead), .int .i64 (((pickR n a b).key).toInt), .int .i64 (((pickR n a b).value).toInt), .int .i64 (((pickR n a b).seq).toInt)]) Try.call47 (ev3 rfl rfl rfl) (fun w hs => pick_c n a b w)) rfl ?_
    refine x_y (v := .agg #[.bool (a.dead), .int .i64 (a.key.toInt), .int .i64 (a.value.toInt), .int .i64 (a.seq.toInt)]) (y_loadN (vs := [.bool (a.dead), .int .i64 (a.key.toInt), .int .i64 (a.value.toInt), .int .i64 (a.seq.toInt)]) rfl Try.isAgg23 Try.sizeOf23 (ownN .h rfl)) rfl ?_
    refine x_y (v := .bool (!(decide ((pickR n a b) = a)))) (y_neqS (a := #[.bool ((pickR n a b).dead), .int .i64 (((pickR n a b).key).toInt), .int .i64 (((pickR n a b).value).toInt), .int .i64 (((pickR n a b).seq).toInt)]) (b := #[.bool (a.dead), .int .i64 (a.key.toInt), .int .i64 (a.value.toInt), .int .i64 (a.seq.toInt)]) (c := decide ((pickR n a b) = a)) Try.eqGuardType23 (fun w => equalR w (pickR n a b) a) rfl rfl) rfl ?_
    refine x_y (v := .bool (!(decide ((pickR n a b) = a)))) (y_move rfl) rfl ?_
    refine x_gy (y_loadN (vs := [.bool (a.dead), .int .i64 (a.key.toInt), .int .i64 (a.value.toInt), .int .i64 (a.seq.toInt)]) rfl Try.isAgg23 Try.sizeOf23 (ownN (.t (.t (.t .h))) rfl)) rfl rfl rfl rfl (b' := !(decide ((pickR n a b) = a))) rfl (by simp [pickR, *]) ?_
    refine x_gy (y_loadN (vs := [.bool (b.dead), .int .i64 (b.key.toInt), .int .i64 (b.value.toInt), .int .i64 (b.seq.toInt)]) rfl Try.isAgg23 Try.sizeOf23 (ownN (.t (.t .h)) rfl)) rfl rfl rfl rfl (b' := !(decide ((pickR n a b) = a))) rfl (by simp [pickR, *]) ?_
    refine x_gy (y_call (args := #[.agg #[.bool (a.dead), .int .i64 (a.key.toInt), .int .i64 (a.value.toInt), .int .i64 (a.seq.toInt)], .agg #[.bool (b.dead), .int .i64 (b.key.toInt), .int .i64 (b.value.toInt), .int .i64 (b.seq.toInt)]]) (v := .int .u64 ((b64 (before a b)).toNat)) Try.call42 (ev2 rfl rfl) (fun w hs => before_c a b w)) rfl rfl rfl rfl (b' := !(decide ((pickR n a b) = a))) rfl (by simp [pickR, *]) ?_
    refine x_gy (y_loadN (vs := [.bool (b.dead), .int .i64 (b.key.toInt), .int .i64 (b.value.toInt), .int .i64 (b.seq.toInt)]) rfl Try.isAgg23 Try.sizeOf23 (ownN (.t (.t .h)) rfl)) rfl rfl rfl rfl (b' := !(decide ((pickR n a b) = a))) rfl (by simp [pickR, *]) ?_
    refine x_gy (y_loadN (vs := [.bool (a.dead), .int .i64 (a.key.toInt), .int .i64 (a.value.toInt), .int .i64 (a.seq.toInt)]) rfl Try.isAgg23 Try.sizeOf23 (ownN (.t (.t (.t .h))) rfl)) rfl rfl rfl rfl (b' := !(decide ((pickR n a b) = a))) rfl (by simp [pickR, *]) ?_
    refine x_gy (y_call (args := #[.agg #[.bool (b.dead), .int .i64 (b.key.toInt), .int .i64 (b.value.toInt), .int .i64 (b.seq.toInt)], .agg #[.bool (a.dead), .int .i64 (a.key.toInt), .int .i64 (a.value.toInt), .int .i64 (a.seq.toInt)]]) (v := .int .u64 ((b64 (before b a)).toNat)) Try.call42 (ev2 rfl rfl) (fun w hs => before_c b a w)) rfl rfl rfl rfl (b' := !(decide ((pickR n a b) = a))) rfl (by simp [pickR, *]) ?_
    refine x_gy (y_add (a := (b64 (before a b)).toNat) (b := (b64 (before b a)).toNat) (c := (((b64 (before a b)) + (b64 (before b a)))).toNat) rfl rfl (u_add _ _)) rfl rfl rfl rfl (b' := !(decide ((pickR n a b) = a))) rfl (by simp [pickR, *]) ?_
    refine x_gy (y_gtr (a := (((b64 (before a b)) + (b64 (before b a)))).toNat) (b := 1) rfl rfl rfl) rfl rfl rfl rfl (b' := !(decide ((pickR n a b) = a))) rfl (by simp [pickR, *]) ?_
    refine x_y (v := .bool (decide ((1 : Int) < ((((b64 (before a b)) + (b64 (before b a)))).toNat)))) (y_pickF (b := !(decide ((pickR n a b) = a))) (v := .bool (decide ((1 : Int) < ((((b64 (before a b)) + (b64 (before b a)))).toNat)))) rfl (by simp [pickR, *]) rfl) rfl ?_
    refine x_y (v := .bool (decide ((1 : Int) < ((((b64 (before a b)) + (b64 (before b a)))).toNat)))) (y_move rfl) rfl ?_
    refine x_gy (y_loadN (vs := [.bool (a.dead), .int .i64 (a.key.toInt), .int .i64 (a.value.toInt), .int .i64 (a.seq.toInt)]) rfl Try.isAgg23 Try.sizeOf23 (ownN (.t (.t (.t .h))) rfl)) rfl rfl rfl rfl (b' := decide ((1 : Int) < ((((b64 (before a b)) + (b64 (before b a)))).toNat))) rfl (before_two a b) ?_
    refine x_gy (y_loadN (vs := [.bool (b.dead), .int .i64 (b.key.toInt), .int .i64 (b.value.toInt), .int .i64 (b.seq.toInt)]) rfl Try.isAgg23 Try.sizeOf23 (ownN (.t (.t .h)) rfl)) rfl rfl rfl rfl (b' := decide ((1 : Int) < ((((b64 (before a b)) + (b64 (before b a)))).toNat))) rfl (before_two a b) ?_
    refine x_gy (y_call (args := #[.agg #[.bool (a.dead), .int .i64 (a.key.toInt), .int .i64 (a.value.toInt), .int .i64 (a.seq.toInt)], .agg #[.bool (b.dead), .int .i64 (b.key.toInt), .int .i64 (b.value.toInt), .int .i64 (b.seq.toInt)]]) (v := .int .u64 ((b64 (ahead a b)).toNat)) Try.call43 (ev2 rfl rfl) (fun w hs => ahead_c a b w)) rfl rfl rfl rfl (b' := decide ((1 : Int) < ((((b64 (before a b)) + (b64 (before b a)))).toNat))) rfl (before_two a b) ?_
    refine x_gy (y_loadN (vs := [.bool (b.dead), .int .i64 (b.key.toInt), .int .i64 (b.value.toInt), .int .i64 (b.seq.toInt)]) rfl Try.isAgg23 Try.sizeOf23 (ownN (.t (.t .h)) rfl)) rfl rfl rfl rfl (b' := decide ((1 : Int) < ((((b64 (before a b)) + (b64 (before b a)))).toNat))) rfl (before_two a b) ?_
    refine x_gy (y_loadN (vs := [.bool (a.dead), .int .i64 (a.key.toInt), .int .i64 (a.value.toInt), .int .i64 (a.seq.toInt)]) rfl Try.isAgg23 Try.sizeOf23 (ownN (.t (.t (.t .h))) rfl)) rfl rfl rfl rfl (b' := decide ((1 : Int) < ((((b64 (before a b)) + (b64 (before b a)))).toNat))) rfl (before_two a b) ?_
    refine x_gy (y_call (args := #[.agg #[.bool (b.dead), .int .i64 (b.key.toInt), .int .i64 (b.value.toInt), .int .i64 (b.seq.toInt)], .agg #[.bool (a.dead), .int .i64 (a.key.toInt), .int .i64 (a.value.toInt), .int .i64 (a.seq.toInt)]]) (v := .int .u64 ((b64 (ahead b a)).toNat)) Try.call43 (ev2 rfl rfl) (fun w hs => ahead_c b a w)) rfl rfl rfl rfl (b' := decide ((1 : Int) < ((((b64 (before a b)) + (b64 (before b a)))).toNat))) rfl (before_two a b) ?_
    refine x_gy (y_add (a := (b64 (ahead a b)).toNat) (b := (b64 (ahead b a)).toNat) (c := (((b64 (ahead a b)) + (b64 (ahead b a)))).toNat) rfl rfl (u_add _ _)) rfl rfl rfl rfl (b' := decide ((1 : Int) < ((((b64 (before a b)) + (b64 (before b a)))).toNat))) rfl (before_two a b) ?_
    refine x_gy (y_gtr (a := (((b64 (ahead a b)) + (b64 (ahead b a)))).toNat) (b := 1) rfl rfl rfl) rfl rfl rfl rfl (b' := decide ((1 : Int) < ((((b64 (before a b)) + (b64 (before b a)))).toNat))) rfl (before_two a b) ?_
    refine x_y (v := .bool (decide ((1 : Int) < ((((b64 (ahead a b)) + (b64 (ahead b a)))).toNat)))) (y_pickF (b := decide ((1 : Int) < ((((b64 (before a b)) + (b64 (before b a)))).toNat))) (v := .bool (decide ((1 : Int) < ((((b64 (ahead a b)) + (b64 (ahead b a)))).toNat)))) rfl (before_two a b) rfl) rfl ?_
    refine x_nil ?_
    refine thenS_n ?_
    refine wpS_cond_F (t := decide ((1 : Int) < ((((b64 (ahead a b)) + (b64 (ahead b a)))).toNat))) rfl (ahead_two a b) ?_
    refine wpS_skip ?_
    refine thenS_n ?_
    refine wpS_seq ?_
    refine wpS_region ?_
    refine s_y (v := .agg #[.bool (a.dead), .int .i64 (a.key.toInt), .int .i64 (a.value.toInt), .int .i64 (a.seq.toInt)]) (y_loadN (vs := [.bool (a.dead), .int .i64 (a.key.toInt), .int .i64 (a.value.toInt), .int .i64 (a.seq.toInt)]) rfl Try.isAgg23 Try.sizeOf23 (ownN (.t (.t (.t .h))) rfl)) rfl ?_
    refine s_y (v := .agg #[.bool (b.dead), .int .i64 (b.key.toInt), .int .i64 (b.value.toInt), .int .i64 (b.seq.toInt)]) (y_loadN (vs := [.bool (b.dead), .int .i64 (b.key.toInt), .int .i64 (b.value.toInt), .int .i64 (b.seq.toInt)]) rfl Try.isAgg23 Try.sizeOf23 (ownN (.t (.t .h)) rfl)) rfl ?_
    refine s_y (v := .int .u64 ((b64 (before a b)).toNat)) (y_call (args := #[.agg #[.bool (a.dead), .int .i64 (a.key.toInt), .int .i64 (a.value.toInt), .int .i64 (a.seq.toInt)], .agg #[.bool (b.dead), .int .i64 (b.key.toInt), .int .i64 (b.value.toInt), .int .i64 (b.seq.toInt)]]) (v := .int .u64 ((b64 (before a b)).toNat)) Try.call42 (ev2 rfl rfl) (fun w hs => before_c a b w)) rfl ?_
    refine s_y (v := .bool (decide ((b64 (before a b)) = 0))) (y_eql (a := (b64 (before a b)).toNat) (b := 0) (c := decide ((b64 (before a b)) = 0)) rfl rfl (u_eqlL _ 0 (by decide))) rfl ?_
    refine s_y (v := .bool (decide ((b64 (before a b)) = 0))) (y_move rfl) rfl ?_
    rcases Bool.eq_false_or_eq_true (decide ((b64 (before a b)) = 0)) with b6 | b6
    · -- decide ((b64 (before a b)) = 0) True
      refine s_no rfl rfl rfl rfl (b' := decide ((b64 (before a b)) = 0)) rfl b6 ?_
      refine s_no rfl rfl rfl rfl (b' := decide ((b64 (before a b)) = 0)) rfl b6 ?_
      refine s_no rfl rfl rfl rfl (b' := decide ((b64 (before a b)) = 0)) rfl b6 ?_
      refine s_no rfl rfl rfl rfl (b' := decide ((b64 (before a b)) = 0)) rfl b6 ?_
      refine s_y (v := .bool true) (y_pickT (b := decide ((b64 (before a b)) = 0)) (v := .bool true) rfl b6 rfl) rfl ?_
      refine s_y (v := .bool true) (y_move rfl) rfl ?_
      refine s_no rfl rfl rfl rfl rfl rfl ?_
      refine s_no rfl rfl rfl rfl rfl rfl ?_
      refine s_no rfl rfl rfl rfl rfl rfl ?_
      refine s_no rfl rfl rfl rfl rfl rfl ?_
      refine s_y (v := .bool true) (y_pickT (v := .bool true) rfl rfl rfl) rfl ?_
      refine s_y (v := .bool true) (y_move rfl) rfl ?_
      refine s_gy (y_loadN (vs := [.bool (a.dead), .int .i64 (a.key.toInt), .int .i64 (a.value.toInt), .int .i64 (a.seq.toInt)]) rfl Try.isAgg23 Try.sizeOf23 (ownN (.t (.t (.t .h))) rfl)) rfl rfl rfl rfl rfl rfl ?_
      refine s_gy (y_loadN (vs := [.bool (b.dead), .int .i64 (b.key.toInt), .int .i64 (b.value.toInt), .int .i64 (b.seq.toInt)]) rfl Try.isAgg23 Try.sizeOf23 (ownN (.t (.t .h)) rfl)) rfl rfl rfl rfl rfl rfl ?_
      refine s_gy (y_call (args := #[.agg #[.bool (a.dead), .int .i64 (a.key.toInt), .int .i64 (a.value.toInt), .int .i64 (a.seq.toInt)], .agg #[.bool (b.dead), .int .i64 (b.key.toInt), .int .i64 (b.value.toInt), .int .i64 (b.seq.toInt)]]) (v := .int .u64 ((b64 (ahead a b)).toNat)) Try.call43 (ev2 rfl rfl) (fun w hs => ahead_c a b w)) rfl rfl rfl rfl rfl rfl ?_
      refine s_gy (y_eql (a := (b64 (ahead a b)).toNat) (b := 0) (c := decide ((b64 (ahead a b)) = 0)) rfl rfl (u_eqlL _ 0 (by decide))) rfl rfl rfl rfl rfl rfl ?_
      refine s_gy (y_move rfl) rfl rfl rfl rfl rfl rfl ?_
      rcases Bool.eq_false_or_eq_true (decide ((b64 (ahead a b)) = 0)) with b7 | b7
      · -- decide ((b64 (ahead a b)) = 0) True
        refine s_no rfl rfl rfl rfl (b' := decide ((b64 (ahead a b)) = 0)) rfl b7 ?_
        refine s_no rfl rfl rfl rfl (b' := decide ((b64 (ahead a b)) = 0)) rfl b7 ?_
        refine s_no rfl rfl rfl rfl (b' := decide ((b64 (ahead a b)) = 0)) rfl b7 ?_
        refine s_no rfl rfl rfl rfl (b' := decide ((b64 (ahead a b)) = 0)) rfl b7 ?_
        refine s_gy (y_pickT (b := decide ((b64 (ahead a b)) = 0)) (v := .bool true) rfl b7 rfl) rfl rfl rfl rfl rfl rfl ?_
        refine s_y (v := .bool true) (y_pickT (v := .bool true) rfl rfl rfl) rfl ?_
        refine s_y (v := .bool true) (y_assign rfl) rfl ?_
        refine wpL_nil ?_
        refine thenS_n ?_
        refine wpS_ret ?_
        refine fin1 (v := .bool true) (.inr rfl) .nil Try.results4 rfl ?_
        exact fun w' hs => ⟨rfl, hs⟩
      · -- decide ((b64 (ahead a b)) = 0) False
        refine s_gy (y_loadN (vs := [.bool (a.dead), .int .i64 (a.key.toInt), .int .i64 (a.value.toInt), .int .i64 (a.seq.toInt)]) rfl Try.isAgg23 Try.sizeOf23 (ownN (.t (.t (.t .h))) rfl)) rfl rfl rfl rfl (b' := decide ((b64 (ahead a b)) = 0)) rfl b7 ?_
        refine s_gy (y_loadN (vs := [.bool (b.dead), .int .i64 (b.key.toInt), .int .i64 (b.value.toInt), .int .i64 (b.seq.toInt)]) rfl Try.isAgg23 Try.sizeOf23 (ownN (.t (.t .h)) rfl)) rfl rfl rfl rfl (b' := decide ((b64 (ahead a b)) = 0)) rfl b7 ?_
        refine s_gy (y_call (args := #[.agg #[.bool (a.dead), .int .i64 (a.key.toInt), .int .i64 (a.value.toInt), .int .i64 (a.seq.toInt)], .agg #[.bool (b.dead), .int .i64 (b.key.toInt), .int .i64 (b.value.toInt), .int .i64 (b.seq.toInt)]]) (v := .int .u64 ((b64 (before a b)).toNat)) Try.call42 (ev2 rfl rfl) (fun w hs => before_c a b w)) rfl rfl rfl rfl (b' := decide ((b64 (ahead a b)) = 0)) rfl b7 ?_
        refine s_gy (y_eql (a := (b64 (before a b)).toNat) (b := 1) (c := decide ((b64 (before a b)) = 1)) rfl rfl (u_eqlL _ 1 (by decide))) rfl rfl rfl rfl (b' := decide ((b64 (ahead a b)) = 0)) rfl b7 ?_
        refine s_gy (y_pickF (b := decide ((b64 (ahead a b)) = 0)) (v := .bool (decide ((b64 (before a b)) = 1))) rfl b7 rfl) rfl rfl rfl rfl rfl rfl ?_
        refine s_y (v := .bool (decide ((b64 (before a b)) = 1))) (y_pickT (v := .bool (decide ((b64 (before a b)) = 1))) rfl rfl rfl) rfl ?_
        refine s_y (v := .bool (decide ((b64 (before a b)) = 1))) (y_assign rfl) rfl ?_
        refine wpL_nil ?_
        refine thenS_n ?_
        refine wpS_ret ?_
        refine fin1 (v := .bool (decide ((b64 (before a b)) = 1))) (.inr rfl) .nil Try.results4 rfl ?_
        exact fun w' hs => ⟨congrArg (fun b => Ending.returned (Value.bool b)) (show (decide ((b64 (before a b)) = 1)) = true from (ahead_before' ‹_›)), hs⟩
    · -- decide ((b64 (before a b)) = 0) False
      refine s_gy (y_loadN (vs := [.bool (b.dead), .int .i64 (b.key.toInt), .int .i64 (b.value.toInt), .int .i64 (b.seq.toInt)]) rfl Try.isAgg23 Try.sizeOf23 (ownN (.t (.t .h)) rfl)) rfl rfl rfl rfl (b' := decide ((b64 (before a b)) = 0)) rfl b6 ?_
      refine s_gy (y_loadN (vs := [.bool (c.dead), .int .i64 (c.key.toInt), .int .i64 (c.value.toInt), .int .i64 (c.seq.toInt)]) rfl Try.isAgg23 Try.sizeOf23 (ownN (.t .h) rfl)) rfl rfl rfl rfl (b' := decide ((b64 (before a b)) = 0)) rfl b6 ?_
      refine s_gy (y_call (args := #[.agg #[.bool (b.dead), .int .i64 (b.key.toInt), .int .i64 (b.value.toInt), .int .i64 (b.seq.toInt)], .agg #[.bool (c.dead), .int .i64 (c.key.toInt), .int .i64 (c.value.toInt), .int .i64 (c.seq.toInt)]]) (v := .int .u64 ((b64 (before b c)).toNat)) Try.call42 (ev2 rfl rfl) (fun w hs => before_c b c w)) rfl rfl rfl rfl (b' := decide ((b64 (before a b)) = 0)) rfl b6 ?_
      refine s_gy (y_eql (a := (b64 (before b c)).toNat) (b := 0) (c := decide ((b64 (before b c)) = 0)) rfl rfl (u_eqlL _ 0 (by decide))) rfl rfl rfl rfl (b' := decide ((b64 (before a b)) = 0)) rfl b6 ?_
      refine s_y (v := .bool (decide ((b64 (before b c)) = 0))) (y_pickF (b := decide ((b64 (before a b)) = 0)) (v := .bool (decide ((b64 (before b c)) = 0))) rfl b6 rfl) rfl ?_
      refine s_y (v := .bool (decide ((b64 (before b c)) = 0))) (y_move rfl) rfl ?_
      rcases Bool.eq_false_or_eq_true (decide ((b64 (before b c)) = 0)) with b8 | b8
      · -- decide ((b64 (before b c)) = 0) True
        refine s_no rfl rfl rfl rfl (b' := decide ((b64 (before b c)) = 0)) rfl b8 ?_
        refine s_no rfl rfl rfl rfl (b' := decide ((b64 (before b c)) = 0)) rfl b8 ?_
        refine s_no rfl rfl rfl rfl (b' := decide ((b64 (before b c)) = 0)) rfl b8 ?_
        refine s_no rfl rfl rfl rfl (b' := decide ((b64 (before b c)) = 0)) rfl b8 ?_
        refine s_y (v := .bool true) (y_pickT (b := decide ((b64 (before b c)) = 0)) (v := .bool true) rfl b8 rfl) rfl ?_
        refine s_y (v := .bool true) (y_move rfl) rfl ?_
        refine s_gy (y_loadN (vs := [.bool (a.dead), .int .i64 (a.key.toInt), .int .i64 (a.value.toInt), .int .i64 (a.seq.toInt)]) rfl Try.isAgg23 Try.sizeOf23 (ownN (.t (.t (.t .h))) rfl)) rfl rfl rfl rfl rfl rfl ?_
        refine s_gy (y_loadN (vs := [.bool (b.dead), .int .i64 (b.key.toInt), .int .i64 (b.value.toInt), .int .i64 (b.seq.toInt)]) rfl Try.isAgg23 Try.sizeOf23 (ownN (.t (.t .h)) rfl)) rfl rfl rfl rfl rfl rfl ?_
        refine s_gy (y_call (args := #[.agg #[.bool (a.dead), .int .i64 (a.key.toInt), .int .i64 (a.value.toInt), .int .i64 (a.seq.toInt)], .agg #[.bool (b.dead), .int .i64 (b.key.toInt), .int .i64 (b.value.toInt), .int .i64 (b.seq.toInt)]]) (v := .int .u64 ((b64 (ahead a b)).toNat)) Try.call43 (ev2 rfl rfl) (fun w hs => ahead_c a b w)) rfl rfl rfl rfl rfl rfl ?_
        refine s_gy (y_eql (a := (b64 (ahead a b)).toNat) (b := 0) (c := decide ((b64 (ahead a b)) = 0)) rfl rfl (u_eqlL _ 0 (by decide))) rfl rfl rfl rfl rfl rfl ?_
        refine s_gy (y_move rfl) rfl rfl rfl rfl rfl rfl ?_
        rcases Bool.eq_false_or_eq_true (decide ((b64 (ahead a b)) = 0)) with b9 | b9
        · -- decide ((b64 (ahead a b)) = 0) True
          refine s_no rfl rfl rfl rfl (b' := decide ((b64 (ahead a b)) = 0)) rfl b9 ?_
          refine s_no rfl rfl rfl rfl (b' := decide ((b64 (ahead a b)) = 0)) rfl b9 ?_
          refine s_no rfl rfl rfl rfl (b' := decide ((b64 (ahead a b)) = 0)) rfl b9 ?_
          refine s_no rfl rfl rfl rfl (b' := decide ((b64 (ahead a b)) = 0)) rfl b9 ?_
          refine s_gy (y_pickT (b := decide ((b64 (ahead a b)) = 0)) (v := .bool true) rfl b9 rfl) rfl rfl rfl rfl rfl rfl ?_
          refine s_y (v := .bool true) (y_pickT (v := .bool true) rfl rfl rfl) rfl ?_
          refine s_y (v := .bool true) (y_assign rfl) rfl ?_
          refine wpL_nil ?_
          refine thenS_n ?_
          refine wpS_ret ?_
          refine fin1 (v := .bool true) (.inr rfl) .nil Try.results4 rfl ?_
          exact fun w' hs => ⟨rfl, hs⟩
        · -- decide ((b64 (ahead a b)) = 0) False
          refine s_gy (y_loadN (vs := [.bool (a.dead), .int .i64 (a.key.toInt), .int .i64 (a.value.toInt), .int .i64 (a.seq.toInt)]) rfl Try.isAgg23 Try.sizeOf23 (ownN (.t (.t (.t .h))) rfl)) rfl rfl rfl rfl (b' := decide ((b64 (ahead a b)) = 0)) rfl b9 ?_
          refine s_gy (y_loadN (vs := [.bool (b.dead), .int .i64 (b.key.toInt), .int .i64 (b.value.toInt), .int .i64 (b.seq.toInt)]) rfl Try.isAgg23 Try.sizeOf23 (ownN (.t (.t .h)) rfl)) rfl rfl rfl rfl (b' := decide ((b64 (ahead a b)) = 0)) rfl b9 ?_
          refine s_gy (y_call (args := #[.agg #[.bool (a.dead), .int .i64 (a.key.toInt), .int .i64 (a.value.toInt), .int .i64 (a.seq.toInt)], .agg #[.bool (b.dead), .int .i64 (b.key.toInt), .int .i64 (b.value.toInt), .int .i64 (b.seq.toInt)]]) (v := .int .u64 ((b64 (before a b)).toNat)) Try.call42 (ev2 rfl rfl) (fun w hs => before_c a b w)) rfl rfl rfl rfl (b' := decide ((b64 (ahead a b)) = 0)) rfl b9 ?_
          refine s_gy (y_eql (a := (b64 (before a b)).toNat) (b := 1) (c := decide ((b64 (before a b)) = 1)) rfl rfl (u_eqlL _ 1 (by decide))) rfl rfl rfl rfl (b' := decide ((b64 (ahead a b)) = 0)) rfl b9 ?_
          refine s_gy (y_pickF (b := decide ((b64 (ahead a b)) = 0)) (v := .bool (decide ((b64 (before a b)) = 1))) rfl b9 rfl) rfl rfl rfl rfl rfl rfl ?_
          refine s_y (v := .bool (decide ((b64 (before a b)) = 1))) (y_pickT (v := .bool (decide ((b64 (before a b)) = 1))) rfl rfl rfl) rfl ?_
          refine s_y (v := .bool (decide ((b64 (before a b)) = 1))) (y_assign rfl) rfl ?_
          refine wpL_nil ?_
          refine thenS_n ?_
          refine wpS_ret ?_
          refine fin1 (v := .bool (decide ((b64 (before a b)) = 1))) (.inr rfl) .nil Try.results4 rfl ?_
          exact fun w' hs => ⟨congrArg (fun b => Ending.returned (Value.bool b)) (show (decide ((b64 (before a b)) = 1)) = true from (ahead_before' ‹_›)), hs⟩
      · -- decide ((b64 (before b c)) = 0) False
        refine s_gy (y_loadN (vs := [.bool (a.dead), .int .i64 (a.key.toInt), .int .i64 (a.value.toInt), .int .i64 (a.seq.toInt)]) rfl Try.isAgg23 Try.sizeOf23 (ownN (.t (.t (.t .h))) rfl)) rfl rfl rfl rfl (b' := decide ((b64 (before b c)) = 0)) rfl b8 ?_
        refine s_gy (y_loadN (vs := [.bool (c.dead), .int .i64 (c.key.toInt), .int .i64 (c.value.toInt), .int .i64 (c.seq.toInt)]) rfl Try.isAgg23 Try.sizeOf23 (ownN (.t .h) rfl)) rfl rfl rfl rfl (b' := decide ((b64 (before b c)) = 0)) rfl b8 ?_
        refine s_gy (y_call (args := #[.agg #[.bool (a.dead), .int .i64 (a.key.toInt), .int .i64 (a.value.toInt), .int .i64 (a.seq.toInt)], .agg #[.bool (c.dead), .int .i64 (c.key.toInt), .int .i64 (c.value.toInt), .int .i64 (c.seq.toInt)]]) (v := .int .u64 ((b64 (before a c)).toNat)) Try.call42 (ev2 rfl rfl) (fun w hs => before_c a c w)) rfl rfl rfl rfl (b' := decide ((b64 (before b c)) = 0)) rfl b8 ?_
        refine s_gy (y_eql (a := (b64 (before a c)).toNat) (b := 1) (c := decide ((b64 (before a c)) = 1)) rfl rfl (u_eqlL _ 1 (by decide))) rfl rfl rfl rfl (b' := decide ((b64 (before b c)) = 0)) rfl b8 ?_
        refine s_y (v := .bool (decide ((b64 (before a c)) = 1))) (y_pickF (b := decide ((b64 (before b c)) = 0)) (v := .bool (decide ((b64 (before a c)) = 1))) rfl b8 rfl) rfl ?_
        refine s_y (v := .bool (decide ((b64 (before a c)) = 1))) (y_move rfl) rfl ?_
        refine s_gy (y_loadN (vs := [.bool (a.dead), .int .i64 (a.key.toInt), .int .i64 (a.value.toInt), .int .i64 (a.seq.toInt)]) rfl Try.isAgg23 Try.sizeOf23 (ownN (.t (.t (.t .h))) rfl)) rfl rfl rfl rfl (b' := decide ((b64 (before a c)) = 1)) rfl (before_trans' ‹_› ‹_›) ?_
        refine s_gy (y_loadN (vs := [.bool (b.dead), .int .i64 (b.key.toInt), .int .i64 (b.value.toInt), .int .i64 (b.seq.toInt)]) rfl Try.isAgg23 Try.sizeOf23 (ownN (.t (.t .h)) rfl)) rfl rfl rfl rfl (b' := decide ((b64 (before a c)) = 1)) rfl (before_trans' ‹_› ‹_›) ?_
        refine s_gy (y_call (args := #[.agg #[.bool (a.dead), .int .i64 (a.key.toInt), .int .i64 (a.value.toInt), .int .i64 (a.seq.toInt)], .agg #[.bool (b.dead), .int .i64 (b.key.toInt), .int .i64 (b.value.toInt), .int .i64 (b.seq.toInt)]]) (v := .int .u64 ((b64 (ahead a b)).toNat)) Try.call43 (ev2 rfl rfl) (fun w hs => ahead_c a b w)) rfl rfl rfl rfl (b' := decide ((b64 (before a c)) = 1)) rfl (before_trans' ‹_› ‹_›) ?_
        refine s_gy (y_eql (a := (b64 (ahead a b)).toNat) (b := 0) (c := decide ((b64 (ahead a b)) = 0)) rfl rfl (u_eqlL _ 0 (by decide))) rfl rfl rfl rfl (b' := decide ((b64 (before a c)) = 1)) rfl (before_trans' ‹_› ‹_›) ?_
        refine s_gy (y_move rfl) rfl rfl rfl rfl (b' := decide ((b64 (before a c)) = 1)) rfl (before_trans' ‹_› ‹_›) ?_
        rcases Bool.eq_false_or_eq_true (decide ((b64 (ahead a b)) = 0)) with b10 | b10
        · -- decide ((b64 (ahead a b)) = 0) True
          refine s_no rfl rfl rfl rfl (b' := decide ((b64 (ahead a b)) = 0)) rfl b10 ?_
          refine s_no rfl rfl rfl rfl (b' := decide ((b64 (ahead a b)) = 0)) rfl b10 ?_
          refine s_no rfl rfl rfl rfl (b' := decide ((b64 (ahead a b)) = 0)) rfl b10 ?_
          refine s_no rfl rfl rfl rfl (b' := decide ((b64 (ahead a b)) = 0)) rfl b10 ?_
          refine s_gy (y_pickT (b := decide ((b64 (ahead a b)) = 0)) (v := .bool true) rfl b10 rfl) rfl rfl rfl rfl (b' := decide ((b64 (before a c)) = 1)) rfl (before_trans' ‹_› ‹_›) ?_
          refine s_y (v := .bool true) (y_pickT (b := decide ((b64 (before a c)) = 1)) (v := .bool true) rfl (before_trans' ‹_› ‹_›) rfl) rfl ?_
          refine s_y (v := .bool true) (y_assign rfl) rfl ?_
          refine wpL_nil ?_
          refine thenS_n ?_
          refine wpS_ret ?_
          refine fin1 (v := .bool true) (.inr rfl) .nil Try.results4 rfl ?_
          exact fun w' hs => ⟨rfl, hs⟩
        · -- decide ((b64 (ahead a b)) = 0) False
          refine s_gy (y_loadN (vs := [.bool (a.dead), .int .i64 (a.key.toInt), .int .i64 (a.value.toInt), .int .i64 (a.seq.toInt)]) rfl Try.isAgg23 Try.sizeOf23 (ownN (.t (.t (.t .h))) rfl)) rfl rfl rfl rfl (b' := decide ((b64 (ahead a b)) = 0)) rfl b10 ?_
          refine s_gy (y_loadN (vs := [.bool (b.dead), .int .i64 (b.key.toInt), .int .i64 (b.value.toInt), .int .i64 (b.seq.toInt)]) rfl Try.isAgg23 Try.sizeOf23 (ownN (.t (.t .h)) rfl)) rfl rfl rfl rfl (b' := decide ((b64 (ahead a b)) = 0)) rfl b10 ?_
          refine s_gy (y_call (args := #[.agg #[.bool (a.dead), .int .i64 (a.key.toInt), .int .i64 (a.value.toInt), .int .i64 (a.seq.toInt)], .agg #[.bool (b.dead), .int .i64 (b.key.toInt), .int .i64 (b.value.toInt), .int .i64 (b.seq.toInt)]]) (v := .int .u64 ((b64 (before a b)).toNat)) Try.call42 (ev2 rfl rfl) (fun w hs => before_c a b w)) rfl rfl rfl rfl (b' := decide ((b64 (ahead a b)) = 0)) rfl b10 ?_
          refine s_gy (y_eql (a := (b64 (before a b)).toNat) (b := 1) (c := decide ((b64 (before a b)) = 1)) rfl rfl (u_eqlL _ 1 (by decide))) rfl rfl rfl rfl (b' := decide ((b64 (ahead a b)) = 0)) rfl b10 ?_
          refine s_gy (y_pickF (b := decide ((b64 (ahead a b)) = 0)) (v := .bool (decide ((b64 (before a b)) = 1))) rfl b10 rfl) rfl rfl rfl rfl (b' := decide ((b64 (before a c)) = 1)) rfl (before_trans' ‹_› ‹_›) ?_
          refine s_y (v := .bool (decide ((b64 (before a b)) = 1))) (y_pickT (b := decide ((b64 (before a c)) = 1)) (v := .bool (decide ((b64 (before a b)) = 1))) rfl (before_trans' ‹_› ‹_›) rfl) rfl ?_
          refine s_y (v := .bool (decide ((b64 (before a b)) = 1))) (y_assign rfl) rfl ?_
          refine wpL_nil ?_
          refine thenS_n ?_
          refine wpS_ret ?_
          refine fin1 (v := .bool (decide ((b64 (before a b)) = 1))) (.inr rfl) .nil Try.results4 rfl ?_
          exact fun w' hs => ⟨congrArg (fun b => Ending.returned (Value.bool b)) (show (decide ((b64 (before a b)) = 1)) = true from (ahead_before' ‹_›)), hs⟩
  · -- decide ((n &&& 1) = 1) false
    refine wpS_skip ?_
    refine thenS_n ?_
    refine wpS_seq ?_
    refine wpS_seq ?_
    refine wpS_lex (by kernel_rfl) (by kernel_rfl) ?_
    refine x_y (v := .int .u64 (n.toNat)) (y_move rfl) rfl ?_
    refine x_y (v := .agg #[.bool (a.dead), .int .i64 (a.key.toInt), .int .i64 (a.value.toInt), .int .i64 (a.seq.toInt)]) (y_loadN (vs := [.bool (a.dead), .int .i64 (a.key.toInt), .int .i64 (a.value.toInt), .int .i64 (a.seq.toInt)]) rfl Try.isAgg23 Try.sizeOf23 (ownN (.t (.t (.t .h))) rfl)) rfl ?_
    refine x_y (v := .agg #[.bool (b.dead), .int .i64 (b.key.toInt), .int .i64 (b.value.toInt), .int .i64 (b.seq.toInt)]) (y_loadN (vs := [.bool (b.dead), .int .i64 (b.key.toInt), .int .i64 (b.value.toInt), .int .i64 (b.seq.toInt)]) rfl Try.isAgg23 Try.sizeOf23 (ownN (.t (.t .h)) rfl)) rfl ?_
    refine x_y (v := .agg #[.bool ((pickR n a b).dead), .int .i64 (((pickR n a b).key).toInt), .int .i64 (((pickR n a b).value).toInt), .int .i64 (((pickR n a b).seq).toInt)]) (y_call (args := #[.int .u64 (n.toNat), .agg #[.bool (a.dead), .int .i64 (a.key.toInt), .int .i64 (a.value.toInt), .int .i64 (a.seq.toInt)], .agg #[.bool (b.dead), .int .i64 (b.key.toInt), .int .i64 (b.value.toInt), .int .i64 (b.seq.toInt)]]) (v := .agg #[.bool ((pickR n a b).dead), .int .i64 (((pickR n a b).key).toInt), .int .i64 (((pickR n a b).value).toInt), .int .i64 (((pickR n a b).seq).toInt)]) Try.call47 (ev3 rfl rfl rfl) (fun w hs => pick_c n a b w)) rfl ?_
    refine x_y (v := .agg #[.bool (b.dead), .int .i64 (b.key.toInt), .int .i64 (b.value.toInt), .int .i64 (b.seq.toInt)]) (y_loadN (vs := [.bool (b.dead), .int .i64 (b.key.toInt), .int .i64 (b.value.toInt), .int .i64 (b.seq.toInt)]) rfl Try.isAgg23 Try.sizeOf23 (ownN .h rfl)) rfl ?_
    refine x_y (v := .bool (!(decide ((pickR n a b) = b)))) (y_neqS (a := #[.bool ((pickR n a b).dead), .int .i64 (((pickR n a b).key).toInt), .int .i64 (((pickR n a b).value).toInt), .int .i64 (((pickR n a b).seq).toInt)]) (b := #[.bool (b.dead), .int .i64 (b.key.toInt), .int .i64 (b.value.toInt), .int .i64 (b.seq.toInt)]) (c := decide ((pickR n a b) = b)) Try.eqGuardType23 (fun w => equalR w (pickR n a b) b) rfl rfl) rfl ?_
    refine x_y (v := .bool (!(decide ((pickR n a b) = b)))) (y_move rfl) rfl ?_
    refine x_gy (y_loadN (vs := [.bool (a.dead), .int .i64 (a.key.toInt), .int .i64 (a.value.toInt), .int .i64 (a.seq.toInt)]) rfl Try.isAgg23 Try.sizeOf23 (ownN (.t (.t (.t .h))) rfl)) rfl rfl rfl rfl (b' := !(decide ((pickR n a b) = b))) rfl (by simp [pickR, *]) ?_
    refine x_gy (y_loadN (vs := [.bool (b.dead), .int .i64 (b.key.toInt), .int .i64 (b.value.toInt), .int .i64 (b.seq.toInt)]) rfl Try.isAgg23 Try.sizeOf23 (ownN (.t (.t .h)) rfl)) rfl rfl rfl rfl (b' := !(decide ((pickR n a b) = b))) rfl (by simp [pickR, *]) ?_
    refine x_gy (y_call (args := #[.agg #[.bool (a.dead), .int .i64 (a.key.toInt), .int .i64 (a.value.toInt), .int .i64 (a.seq.toInt)], .agg #[.bool (b.dead), .int .i64 (b.key.toInt), .int .i64 (b.value.toInt), .int .i64 (b.seq.toInt)]]) (v := .int .u64 ((b64 (before a b)).toNat)) Try.call42 (ev2 rfl rfl) (fun w hs => before_c a b w)) rfl rfl rfl rfl (b' := !(decide ((pickR n a b) = b))) rfl (by simp [pickR, *]) ?_
    refine x_gy (y_loadN (vs := [.bool (b.dead), .int .i64 (b.key.toInt), .int .i64 (b.value.toInt), .int .i64 (b.seq.toInt)]) rfl Try.isAgg23 Try.sizeOf23 (ownN (.t (.t .h)) rfl)) rfl rfl rfl rfl (b' := !(decide ((pickR n a b) = b))) rfl (by simp [pickR, *]) ?_
    refine x_gy (y_loadN (vs := [.bool (a.dead), .int .i64 (a.key.toInt), .int .i64 (a.value.toInt), .int .i64 (a.seq.toInt)]) rfl Try.isAgg23 Try.sizeOf23 (ownN (.t (.t (.t .h))) rfl)) rfl rfl rfl rfl (b' := !(decide ((pickR n a b) = b))) rfl (by simp [pickR, *]) ?_
    refine x_gy (y_call (args := #[.agg #[.bool (b.dead), .int .i64 (b.key.toInt), .int .i64 (b.value.toInt), .int .i64 (b.seq.toInt)], .agg #[.bool (a.dead), .int .i64 (a.key.toInt), .int .i64 (a.value.toInt), .int .i64 (a.seq.toInt)]]) (v := .int .u64 ((b64 (before b a)).toNat)) Try.call42 (ev2 rfl rfl) (fun w hs => before_c b a w)) rfl rfl rfl rfl (b' := !(decide ((pickR n a b) = b))) rfl (by simp [pickR, *]) ?_
    refine x_gy (y_add (a := (b64 (before a b)).toNat) (b := (b64 (before b a)).toNat) (c := (((b64 (before a b)) + (b64 (before b a)))).toNat) rfl rfl (u_add _ _)) rfl rfl rfl rfl (b' := !(decide ((pickR n a b) = b))) rfl (by simp [pickR, *]) ?_
    refine x_gy (y_gtr (a := (((b64 (before a b)) + (b64 (before b a)))).toNat) (b := 1) rfl rfl rfl) rfl rfl rfl rfl (b' := !(decide ((pickR n a b) = b))) rfl (by simp [pickR, *]) ?_
    refine x_y (v := .bool (decide ((1 : Int) < ((((b64 (before a b)) + (b64 (before b a)))).toNat)))) (y_pickF (b := !(decide ((pickR n a b) = b))) (v := .bool (decide ((1 : Int) < ((((b64 (before a b)) + (b64 (before b a)))).toNat)))) rfl (by simp [pickR, *]) rfl) rfl ?_
    refine x_y (v := .bool (decide ((1 : Int) < ((((b64 (before a b)) + (b64 (before b a)))).toNat)))) (y_move rfl) rfl ?_
    refine x_gy (y_loadN (vs := [.bool (a.dead), .int .i64 (a.key.toInt), .int .i64 (a.value.toInt), .int .i64 (a.seq.toInt)]) rfl Try.isAgg23 Try.sizeOf23 (ownN (.t (.t (.t .h))) rfl)) rfl rfl rfl rfl (b' := decide ((1 : Int) < ((((b64 (before a b)) + (b64 (before b a)))).toNat))) rfl (before_two a b) ?_
    refine x_gy (y_loadN (vs := [.bool (b.dead), .int .i64 (b.key.toInt), .int .i64 (b.value.toInt), .int .i64 (b.seq.toInt)]) rfl Try.isAgg23 Try.sizeOf23 (ownN (.t (.t .h)) rfl)) rfl rfl rfl rfl (b' := decide ((1 : Int) < ((((b64 (before a b)) + (b64 (before b a)))).toNat))) rfl (before_two a b) ?_
    refine x_gy (y_call (args := #[.agg #[.bool (a.dead), .int .i64 (a.key.toInt), .int .i64 (a.value.toInt), .int .i64 (a.seq.toInt)], .agg #[.bool (b.dead), .int .i64 (b.key.toInt), .int .i64 (b.value.toInt), .int .i64 (b.seq.toInt)]]) (v := .int .u64 ((b64 (ahead a b)).toNat)) Try.call43 (ev2 rfl rfl) (fun w hs => ahead_c a b w)) rfl rfl rfl rfl (b' := decide ((1 : Int) < ((((b64 (before a b)) + (b64 (before b a)))).toNat))) rfl (before_two a b) ?_
    refine x_gy (y_loadN (vs := [.bool (b.dead), .int .i64 (b.key.toInt), .int .i64 (b.value.toInt), .int .i64 (b.seq.toInt)]) rfl Try.isAgg23 Try.sizeOf23 (ownN (.t (.t .h)) rfl)) rfl rfl rfl rfl (b' := decide ((1 : Int) < ((((b64 (before a b)) + (b64 (before b a)))).toNat))) rfl (before_two a b) ?_
    refine x_gy (y_loadN (vs := [.bool (a.dead), .int .i64 (a.key.toInt), .int .i64 (a.value.toInt), .int .i64 (a.seq.toInt)]) rfl Try.isAgg23 Try.sizeOf23 (ownN (.t (.t (.t .h))) rfl)) rfl rfl rfl rfl (b' := decide ((1 : Int) < ((((b64 (before a b)) + (b64 (before b a)))).toNat))) rfl (before_two a b) ?_
    refine x_gy (y_call (args := #[.agg #[.bool (b.dead), .int .i64 (b.key.toInt), .int .i64 (b.value.toInt), .int .i64 (b.seq.toInt)], .agg #[.bool (a.dead), .int .i64 (a.key.toInt), .int .i64 (a.value.toInt), .int .i64 (a.seq.toInt)]]) (v := .int .u64 ((b64 (ahead b a)).toNat)) Try.call43 (ev2 rfl rfl) (fun w hs => ahead_c b a w)) rfl rfl rfl rfl (b' := decide ((1 : Int) < ((((b64 (before a b)) + (b64 (before b a)))).toNat))) rfl (before_two a b) ?_
    refine x_gy (y_add (a := (b64 (ahead a b)).toNat) (b := (b64 (ahead b a)).toNat) (c := (((b64 (ahead a b)) + (b64 (ahead b a)))).toNat) rfl rfl (u_add _ _)) rfl rfl rfl rfl (b' := decide ((1 : Int) < ((((b64 (before a b)) + (b64 (before b a)))).toNat))) rfl (before_two a b) ?_
    refine x_gy (y_gtr (a := (((b64 (ahead a b)) + (b64 (ahead b a)))).toNat) (b := 1) rfl rfl rfl) rfl rfl rfl rfl (b' := decide ((1 : Int) < ((((b64 (before a b)) + (b64 (before b a)))).toNat))) rfl (before_two a b) ?_
    refine x_y (v := .bool (decide ((1 : Int) < ((((b64 (ahead a b)) + (b64 (ahead b a)))).toNat)))) (y_pickF (b := decide ((1 : Int) < ((((b64 (before a b)) + (b64 (before b a)))).toNat))) (v := .bool (decide ((1 : Int) < ((((b64 (ahead a b)) + (b64 (ahead b a)))).toNat)))) rfl (before_two a b) rfl) rfl ?_
    refine x_nil ?_
    refine thenS_n ?_
    refine wpS_cond_F (t := decide ((1 : Int) < ((((b64 (ahead a b)) + (b64 (ahead b a)))).toNat))) rfl (ahead_two a b) ?_
    refine wpS_skip ?_
    refine thenS_n ?_
    refine wpS_seq ?_
    refine wpS_region ?_
    refine s_y (v := .agg #[.bool (a.dead), .int .i64 (a.key.toInt), .int .i64 (a.value.toInt), .int .i64 (a.seq.toInt)]) (y_loadN (vs := [.bool (a.dead), .int .i64 (a.key.toInt), .int .i64 (a.value.toInt), .int .i64 (a.seq.toInt)]) rfl Try.isAgg23 Try.sizeOf23 (ownN (.t (.t (.t .h))) rfl)) rfl ?_
    refine s_y (v := .agg #[.bool (b.dead), .int .i64 (b.key.toInt), .int .i64 (b.value.toInt), .int .i64 (b.seq.toInt)]) (y_loadN (vs := [.bool (b.dead), .int .i64 (b.key.toInt), .int .i64 (b.value.toInt), .int .i64 (b.seq.toInt)]) rfl Try.isAgg23 Try.sizeOf23 (ownN (.t (.t .h)) rfl)) rfl ?_
    refine s_y (v := .int .u64 ((b64 (before a b)).toNat)) (y_call (args := #[.agg #[.bool (a.dead), .int .i64 (a.key.toInt), .int .i64 (a.value.toInt), .int .i64 (a.seq.toInt)], .agg #[.bool (b.dead), .int .i64 (b.key.toInt), .int .i64 (b.value.toInt), .int .i64 (b.seq.toInt)]]) (v := .int .u64 ((b64 (before a b)).toNat)) Try.call42 (ev2 rfl rfl) (fun w hs => before_c a b w)) rfl ?_
    refine s_y (v := .bool (decide ((b64 (before a b)) = 0))) (y_eql (a := (b64 (before a b)).toNat) (b := 0) (c := decide ((b64 (before a b)) = 0)) rfl rfl (u_eqlL _ 0 (by decide))) rfl ?_
    refine s_y (v := .bool (decide ((b64 (before a b)) = 0))) (y_move rfl) rfl ?_
    rcases Bool.eq_false_or_eq_true (decide ((b64 (before a b)) = 0)) with b11 | b11
    · -- decide ((b64 (before a b)) = 0) True
      refine s_no rfl rfl rfl rfl (b' := decide ((b64 (before a b)) = 0)) rfl b11 ?_
      refine s_no rfl rfl rfl rfl (b' := decide ((b64 (before a b)) = 0)) rfl b11 ?_
      refine s_no rfl rfl rfl rfl (b' := decide ((b64 (before a b)) = 0)) rfl b11 ?_
      refine s_no rfl rfl rfl rfl (b' := decide ((b64 (before a b)) = 0)) rfl b11 ?_
      refine s_y (v := .bool true) (y_pickT (b := decide ((b64 (before a b)) = 0)) (v := .bool true) rfl b11 rfl) rfl ?_
      refine s_y (v := .bool true) (y_move rfl) rfl ?_
      refine s_no rfl rfl rfl rfl rfl rfl ?_
      refine s_no rfl rfl rfl rfl rfl rfl ?_
      refine s_no rfl rfl rfl rfl rfl rfl ?_
      refine s_no rfl rfl rfl rfl rfl rfl ?_
      refine s_y (v := .bool true) (y_pickT (v := .bool true) rfl rfl rfl) rfl ?_
      refine s_y (v := .bool true) (y_move rfl) rfl ?_
      refine s_gy (y_loadN (vs := [.bool (a.dead), .int .i64 (a.key.toInt), .int .i64 (a.value.toInt), .int .i64 (a.seq.toInt)]) rfl Try.isAgg23 Try.sizeOf23 (ownN (.t (.t (.t .h))) rfl)) rfl rfl rfl rfl rfl rfl ?_
      refine s_gy (y_loadN (vs := [.bool (b.dead), .int .i64 (b.key.toInt), .int .i64 (b.value.toInt), .int .i64 (b.seq.toInt)]) rfl Try.isAgg23 Try.sizeOf23 (ownN (.t (.t .h)) rfl)) rfl rfl rfl rfl rfl rfl ?_
      refine s_gy (y_call (args := #[.agg #[.bool (a.dead), .int .i64 (a.key.toInt), .int .i64 (a.value.toInt), .int .i64 (a.seq.toInt)], .agg #[.bool (b.dead), .int .i64 (b.key.toInt), .int .i64 (b.value.toInt), .int .i64 (b.seq.toInt)]]) (v := .int .u64 ((b64 (ahead a b)).toNat)) Try.call43 (ev2 rfl rfl) (fun w hs => ahead_c a b w)) rfl rfl rfl rfl rfl rfl ?_
      refine s_gy (y_eql (a := (b64 (ahead a b)).toNat) (b := 0) (c := decide ((b64 (ahead a b)) = 0)) rfl rfl (u_eqlL _ 0 (by decide))) rfl rfl rfl rfl rfl rfl ?_
      refine s_gy (y_move rfl) rfl rfl rfl rfl rfl rfl ?_
      rcases Bool.eq_false_or_eq_true (decide ((b64 (ahead a b)) = 0)) with b12 | b12
      · -- decide ((b64 (ahead a b)) = 0) True
        refine s_no rfl rfl rfl rfl (b' := decide ((b64 (ahead a b)) = 0)) rfl b12 ?_
        refine s_no rfl rfl rfl rfl (b' := decide ((b64 (ahead a b)) = 0)) rfl b12 ?_
        refine s_no rfl rfl rfl rfl (b' := decide ((b64 (ahead a b)) = 0)) rfl b12 ?_
        refine s_no rfl rfl rfl rfl (b' := decide ((b64 (ahead a b)) = 0)) rfl b12 ?_
        refine s_gy (y_pickT (b := decide ((b64 (ahead a b)) = 0)) (v := .bool true) rfl b12 rfl) rfl rfl rfl rfl rfl rfl ?_
        refine s_y (v := .bool true) (y_pickT (v := .bool true) rfl rfl rfl) rfl ?_
        refine s_y (v := .bool true) (y_assign rfl) rfl ?_
        refine wpL_nil ?_
        refine thenS_n ?_
        refine wpS_ret ?_
        refine fin1 (v := .bool true) (.inr rfl) .nil Try.results4 rfl ?_
        exact fun w' hs => ⟨rfl, hs⟩
      · -- decide ((b64 (ahead a b)) = 0) False
        refine s_gy (y_loadN (vs := [.bool (a.dead), .int .i64 (a.key.toInt), .int .i64 (a.value.toInt), .int .i64 (a.seq.toInt)]) rfl Try.isAgg23 Try.sizeOf23 (ownN (.t (.t (.t .h))) rfl)) rfl rfl rfl rfl (b' := decide ((b64 (ahead a b)) = 0)) rfl b12 ?_
        refine s_gy (y_loadN (vs := [.bool (b.dead), .int .i64 (b.key.toInt), .int .i64 (b.value.toInt), .int .i64 (b.seq.toInt)]) rfl Try.isAgg23 Try.sizeOf23 (ownN (.t (.t .h)) rfl)) rfl rfl rfl rfl (b' := decide ((b64 (ahead a b)) = 0)) rfl b12 ?_
        refine s_gy (y_call (args := #[.agg #[.bool (a.dead), .int .i64 (a.key.toInt), .int .i64 (a.value.toInt), .int .i64 (a.seq.toInt)], .agg #[.bool (b.dead), .int .i64 (b.key.toInt), .int .i64 (b.value.toInt), .int .i64 (b.seq.toInt)]]) (v := .int .u64 ((b64 (before a b)).toNat)) Try.call42 (ev2 rfl rfl) (fun w hs => before_c a b w)) rfl rfl rfl rfl (b' := decide ((b64 (ahead a b)) = 0)) rfl b12 ?_
        refine s_gy (y_eql (a := (b64 (before a b)).toNat) (b := 1) (c := decide ((b64 (before a b)) = 1)) rfl rfl (u_eqlL _ 1 (by decide))) rfl rfl rfl rfl (b' := decide ((b64 (ahead a b)) = 0)) rfl b12 ?_
        refine s_gy (y_pickF (b := decide ((b64 (ahead a b)) = 0)) (v := .bool (decide ((b64 (before a b)) = 1))) rfl b12 rfl) rfl rfl rfl rfl rfl rfl ?_
        refine s_y (v := .bool (decide ((b64 (before a b)) = 1))) (y_pickT (v := .bool (decide ((b64 (before a b)) = 1))) rfl rfl rfl) rfl ?_
        refine s_y (v := .bool (decide ((b64 (before a b)) = 1))) (y_assign rfl) rfl ?_
        refine wpL_nil ?_
        refine thenS_n ?_
        refine wpS_ret ?_
        refine fin1 (v := .bool (decide ((b64 (before a b)) = 1))) (.inr rfl) .nil Try.results4 rfl ?_
        exact fun w' hs => ⟨congrArg (fun b => Ending.returned (Value.bool b)) (show (decide ((b64 (before a b)) = 1)) = true from (ahead_before' ‹_›)), hs⟩
    · -- decide ((b64 (before a b)) = 0) False
      refine s_gy (y_loadN (vs := [.bool (b.dead), .int .i64 (b.key.toInt), .int .i64 (b.value.toInt), .int .i64 (b.seq.toInt)]) rfl Try.isAgg23 Try.sizeOf23 (ownN (.t (.t .h)) rfl)) rfl rfl rfl rfl (b' := decide ((b64 (before a b)) = 0)) rfl b11 ?_
      refine s_gy (y_loadN (vs := [.bool (c.dead), .int .i64 (c.key.toInt), .int .i64 (c.value.toInt), .int .i64 (c.seq.toInt)]) rfl Try.isAgg23 Try.sizeOf23 (ownN (.t .h) rfl)) rfl rfl rfl rfl (b' := decide ((b64 (before a b)) = 0)) rfl b11 ?_
      refine s_gy (y_call (args := #[.agg #[.bool (b.dead), .int .i64 (b.key.toInt), .int .i64 (b.value.toInt), .int .i64 (b.seq.toInt)], .agg #[.bool (c.dead), .int .i64 (c.key.toInt), .int .i64 (c.value.toInt), .int .i64 (c.seq.toInt)]]) (v := .int .u64 ((b64 (before b c)).toNat)) Try.call42 (ev2 rfl rfl) (fun w hs => before_c b c w)) rfl rfl rfl rfl (b' := decide ((b64 (before a b)) = 0)) rfl b11 ?_
      refine s_gy (y_eql (a := (b64 (before b c)).toNat) (b := 0) (c := decide ((b64 (before b c)) = 0)) rfl rfl (u_eqlL _ 0 (by decide))) rfl rfl rfl rfl (b' := decide ((b64 (before a b)) = 0)) rfl b11 ?_
      refine s_y (v := .bool (decide ((b64 (before b c)) = 0))) (y_pickF (b := decide ((b64 (before a b)) = 0)) (v := .bool (decide ((b64 (before b c)) = 0))) rfl b11 rfl) rfl ?_
      refine s_y (v := .bool (decide ((b64 (before b c)) = 0))) (y_move rfl) rfl ?_
      rcases Bool.eq_false_or_eq_true (decide ((b64 (before b c)) = 0)) with b13 | b13
      · -- decide ((b64 (before b c)) = 0) True
        refine s_no rfl rfl rfl rfl (b' := decide ((b64 (before b c)) = 0)) rfl b13 ?_
        refine s_no rfl rfl rfl rfl (b' := decide ((b64 (before b c)) = 0)) rfl b13 ?_
        refine s_no rfl rfl rfl rfl (b' := decide ((b64 (before b c)) = 0)) rfl b13 ?_
        refine s_no rfl rfl rfl rfl (b' := decide ((b64 (before b c)) = 0)) rfl b13 ?_
        refine s_y (v := .bool true) (y_pickT (b := decide ((b64 (before b c)) = 0)) (v := .bool true) rfl b13 rfl) rfl ?_
        refine s_y (v := .bool true) (y_move rfl) rfl ?_
        refine s_gy (y_loadN (vs := [.bool (a.dead), .int .i64 (a.key.toInt), .int .i64 (a.value.toInt), .int .i64 (a.seq.toInt)]) rfl Try.isAgg23 Try.sizeOf23 (ownN (.t (.t (.t .h))) rfl)) rfl rfl rfl rfl rfl rfl ?_
        refine s_gy (y_loadN (vs := [.bool (b.dead), .int .i64 (b.key.toInt), .int .i64 (b.value.toInt), .int .i64 (b.seq.toInt)]) rfl Try.isAgg23 Try.sizeOf23 (ownN (.t (.t .h)) rfl)) rfl rfl rfl rfl rfl rfl ?_
        refine s_gy (y_call (args := #[.agg #[.bool (a.dead), .int .i64 (a.key.toInt), .int .i64 (a.value.toInt), .int .i64 (a.seq.toInt)], .agg #[.bool (b.dead), .int .i64 (b.key.toInt), .int .i64 (b.value.toInt), .int .i64 (b.seq.toInt)]]) (v := .int .u64 ((b64 (ahead a b)).toNat)) Try.call43 (ev2 rfl rfl) (fun w hs => ahead_c a b w)) rfl rfl rfl rfl rfl rfl ?_
        refine s_gy (y_eql (a := (b64 (ahead a b)).toNat) (b := 0) (c := decide ((b64 (ahead a b)) = 0)) rfl rfl (u_eqlL _ 0 (by decide))) rfl rfl rfl rfl rfl rfl ?_
        refine s_gy (y_move rfl) rfl rfl rfl rfl rfl rfl ?_
        rcases Bool.eq_false_or_eq_true (decide ((b64 (ahead a b)) = 0)) with b14 | b14
        · -- decide ((b64 (ahead a b)) = 0) True
          refine s_no rfl rfl rfl rfl (b' := decide ((b64 (ahead a b)) = 0)) rfl b14 ?_
          refine s_no rfl rfl rfl rfl (b' := decide ((b64 (ahead a b)) = 0)) rfl b14 ?_
          refine s_no rfl rfl rfl rfl (b' := decide ((b64 (ahead a b)) = 0)) rfl b14 ?_
          refine s_no rfl rfl rfl rfl (b' := decide ((b64 (ahead a b)) = 0)) rfl b14 ?_
          refine s_gy (y_pickT (b := decide ((b64 (ahead a b)) = 0)) (v := .bool true) rfl b14 rfl) rfl rfl rfl rfl rfl rfl ?_
          refine s_y (v := .bool true) (y_pickT (v := .bool true) rfl rfl rfl) rfl ?_
          refine s_y (v := .bool true) (y_assign rfl) rfl ?_
          refine wpL_nil ?_
          refine thenS_n ?_
          refine wpS_ret ?_
          refine fin1 (v := .bool true) (.inr rfl) .nil Try.results4 rfl ?_
          exact fun w' hs => ⟨rfl, hs⟩
        · -- decide ((b64 (ahead a b)) = 0) False
          refine s_gy (y_loadN (vs := [.bool (a.dead), .int .i64 (a.key.toInt), .int .i64 (a.value.toInt), .int .i64 (a.seq.toInt)]) rfl Try.isAgg23 Try.sizeOf23 (ownN (.t (.t (.t .h))) rfl)) rfl rfl rfl rfl (b' := decide ((b64 (ahead a b)) = 0)) rfl b14 ?_
          refine s_gy (y_loadN (vs := [.bool (b.dead), .int .i64 (b.key.toInt), .int .i64 (b.value.toInt), .int .i64 (b.seq.toInt)]) rfl Try.isAgg23 Try.sizeOf23 (ownN (.t (.t .h)) rfl)) rfl rfl rfl rfl (b' := decide ((b64 (ahead a b)) = 0)) rfl b14 ?_
          refine s_gy (y_call (args := #[.agg #[.bool (a.dead), .int .i64 (a.key.toInt), .int .i64 (a.value.toInt), .int .i64 (a.seq.toInt)], .agg #[.bool (b.dead), .int .i64 (b.key.toInt), .int .i64 (b.value.toInt), .int .i64 (b.seq.toInt)]]) (v := .int .u64 ((b64 (before a b)).toNat)) Try.call42 (ev2 rfl rfl) (fun w hs => before_c a b w)) rfl rfl rfl rfl (b' := decide ((b64 (ahead a b)) = 0)) rfl b14 ?_
          refine s_gy (y_eql (a := (b64 (before a b)).toNat) (b := 1) (c := decide ((b64 (before a b)) = 1)) rfl rfl (u_eqlL _ 1 (by decide))) rfl rfl rfl rfl (b' := decide ((b64 (ahead a b)) = 0)) rfl b14 ?_
          refine s_gy (y_pickF (b := decide ((b64 (ahead a b)) = 0)) (v := .bool (decide ((b64 (before a b)) = 1))) rfl b14 rfl) rfl rfl rfl rfl rfl rfl ?_
          refine s_y (v := .bool (decide ((b64 (before a b)) = 1))) (y_pickT (v := .bool (decide ((b64 (before a b)) = 1))) rfl rfl rfl) rfl ?_
          refine s_y (v := .bool (decide ((b64 (before a b)) = 1))) (y_assign rfl) rfl ?_
          refine wpL_nil ?_
          refine thenS_n ?_
          refine wpS_ret ?_
          refine fin1 (v := .bool (decide ((b64 (before a b)) = 1))) (.inr rfl) .nil Try.results4 rfl ?_
          exact fun w' hs => ⟨congrArg (fun b => Ending.returned (Value.bool b)) (show (decide ((b64 (before a b)) = 1)) = true from (ahead_before' ‹_›)), hs⟩
      · -- decide ((b64 (before b c)) = 0) False
        refine s_gy (y_loadN (vs := [.bool (a.dead), .int .i64 (a.key.toInt), .int .i64 (a.value.toInt), .int .i64 (a.seq.toInt)]) rfl Try.isAgg23 Try.sizeOf23 (ownN (.t (.t (.t .h))) rfl)) rfl rfl rfl rfl (b' := decide ((b64 (before b c)) = 0)) rfl b13 ?_
        refine s_gy (y_loadN (vs := [.bool (c.dead), .int .i64 (c.key.toInt), .int .i64 (c.value.toInt), .int .i64 (c.seq.toInt)]) rfl Try.isAgg23 Try.sizeOf23 (ownN (.t .h) rfl)) rfl rfl rfl rfl (b' := decide ((b64 (before b c)) = 0)) rfl b13 ?_
        refine s_gy (y_call (args := #[.agg #[.bool (a.dead), .int .i64 (a.key.toInt), .int .i64 (a.value.toInt), .int .i64 (a.seq.toInt)], .agg #[.bool (c.dead), .int .i64 (c.key.toInt), .int .i64 (c.value.toInt), .int .i64 (c.seq.toInt)]]) (v := .int .u64 ((b64 (before a c)).toNat)) Try.call42 (ev2 rfl rfl) (fun w hs => before_c a c w)) rfl rfl rfl rfl (b' := decide ((b64 (before b c)) = 0)) rfl b13 ?_
        refine s_gy (y_eql (a := (b64 (before a c)).toNat) (b := 1) (c := decide ((b64 (before a c)) = 1)) rfl rfl (u_eqlL _ 1 (by decide))) rfl rfl rfl rfl (b' := decide ((b64 (before b c)) = 0)) rfl b13 ?_
        refine s_y (v := .bool (decide ((b64 (before a c)) = 1))) (y_pickF (b := decide ((b64 (before b c)) = 0)) (v := .bool (decide ((b64 (before a c)) = 1))) rfl b13 rfl) rfl ?_
        refine s_y (v := .bool (decide ((b64 (before a c)) = 1))) (y_move rfl) rfl ?_
        refine s_gy (y_loadN (vs := [.bool (a.dead), .int .i64 (a.key.toInt), .int .i64 (a.value.toInt), .int .i64 (a.seq.toInt)]) rfl Try.isAgg23 Try.sizeOf23 (ownN (.t (.t (.t .h))) rfl)) rfl rfl rfl rfl (b' := decide ((b64 (before a c)) = 1)) rfl (before_trans' ‹_› ‹_›) ?_
        refine s_gy (y_loadN (vs := [.bool (b.dead), .int .i64 (b.key.toInt), .int .i64 (b.value.toInt), .int .i64 (b.seq.toInt)]) rfl Try.isAgg23 Try.sizeOf23 (ownN (.t (.t .h)) rfl)) rfl rfl rfl rfl (b' := decide ((b64 (before a c)) = 1)) rfl (before_trans' ‹_› ‹_›) ?_
        refine s_gy (y_call (args := #[.agg #[.bool (a.dead), .int .i64 (a.key.toInt), .int .i64 (a.value.toInt), .int .i64 (a.seq.toInt)], .agg #[.bool (b.dead), .int .i64 (b.key.toInt), .int .i64 (b.value.toInt), .int .i64 (b.seq.toInt)]]) (v := .int .u64 ((b64 (ahead a b)).toNat)) Try.call43 (ev2 rfl rfl) (fun w hs => ahead_c a b w)) rfl rfl rfl rfl (b' := decide ((b64 (before a c)) = 1)) rfl (before_trans' ‹_› ‹_›) ?_
        refine s_gy (y_eql (a := (b64 (ahead a b)).toNat) (b := 0) (c := decide ((b64 (ahead a b)) = 0)) rfl rfl (u_eqlL _ 0 (by decide))) rfl rfl rfl rfl (b' := decide ((b64 (before a c)) = 1)) rfl (before_trans' ‹_› ‹_›) ?_
        refine s_gy (y_move rfl) rfl rfl rfl rfl (b' := decide ((b64 (before a c)) = 1)) rfl (before_trans' ‹_› ‹_›) ?_
        rcases Bool.eq_false_or_eq_true (decide ((b64 (ahead a b)) = 0)) with b15 | b15
        · -- decide ((b64 (ahead a b)) = 0) True
          refine s_no rfl rfl rfl rfl (b' := decide ((b64 (ahead a b)) = 0)) rfl b15 ?_
          refine s_no rfl rfl rfl rfl (b' := decide ((b64 (ahead a b)) = 0)) rfl b15 ?_
          refine s_no rfl rfl rfl rfl (b' := decide ((b64 (ahead a b)) = 0)) rfl b15 ?_
          refine s_no rfl rfl rfl rfl (b' := decide ((b64 (ahead a b)) = 0)) rfl b15 ?_
          refine s_gy (y_pickT (b := decide ((b64 (ahead a b)) = 0)) (v := .bool true) rfl b15 rfl) rfl rfl rfl rfl (b' := decide ((b64 (before a c)) = 1)) rfl (before_trans' ‹_› ‹_›) ?_
          refine s_y (v := .bool true) (y_pickT (b := decide ((b64 (before a c)) = 1)) (v := .bool true) rfl (before_trans' ‹_› ‹_›) rfl) rfl ?_
          refine s_y (v := .bool true) (y_assign rfl) rfl ?_
          refine wpL_nil ?_
          refine thenS_n ?_
          refine wpS_ret ?_
          refine fin1 (v := .bool true) (.inr rfl) .nil Try.results4 rfl ?_
          exact fun w' hs => ⟨rfl, hs⟩
        · -- decide ((b64 (ahead a b)) = 0) False
          refine s_gy (y_loadN (vs := [.bool (a.dead), .int .i64 (a.key.toInt), .int .i64 (a.value.toInt), .int .i64 (a.seq.toInt)]) rfl Try.isAgg23 Try.sizeOf23 (ownN (.t (.t (.t .h))) rfl)) rfl rfl rfl rfl (b' := decide ((b64 (ahead a b)) = 0)) rfl b15 ?_
          refine s_gy (y_loadN (vs := [.bool (b.dead), .int .i64 (b.key.toInt), .int .i64 (b.value.toInt), .int .i64 (b.seq.toInt)]) rfl Try.isAgg23 Try.sizeOf23 (ownN (.t (.t .h)) rfl)) rfl rfl rfl rfl (b' := decide ((b64 (ahead a b)) = 0)) rfl b15 ?_
          refine s_gy (y_call (args := #[.agg #[.bool (a.dead), .int .i64 (a.key.toInt), .int .i64 (a.value.toInt), .int .i64 (a.seq.toInt)], .agg #[.bool (b.dead), .int .i64 (b.key.toInt), .int .i64 (b.value.toInt), .int .i64 (b.seq.toInt)]]) (v := .int .u64 ((b64 (before a b)).toNat)) Try.call42 (ev2 rfl rfl) (fun w hs => before_c a b w)) rfl rfl rfl rfl (b' := decide ((b64 (ahead a b)) = 0)) rfl b15 ?_
          refine s_gy (y_eql (a := (b64 (before a b)).toNat) (b := 1) (c := decide ((b64 (before a b)) = 1)) rfl rfl (u_eqlL _ 1 (by decide))) rfl rfl rfl rfl (b' := decide ((b64 (ahead a b)) = 0)) rfl b15 ?_
          refine s_gy (y_pickF (b := decide ((b64 (ahead a b)) = 0)) (v := .bool (decide ((b64 (before a b)) = 1))) rfl b15 rfl) rfl rfl rfl rfl (b' := decide ((b64 (before a c)) = 1)) rfl (before_trans' ‹_› ‹_›) ?_
          refine s_y (v := .bool (decide ((b64 (before a b)) = 1))) (y_pickT (b := decide ((b64 (before a c)) = 1)) (v := .bool (decide ((b64 (before a b)) = 1))) rfl (before_trans' ‹_› ‹_›) rfl) rfl ?_
          refine s_y (v := .bool (decide ((b64 (before a b)) = 1))) (y_assign rfl) rfl ?_
          refine wpL_nil ?_
          refine thenS_n ?_
          refine wpS_ret ?_
          refine fin1 (v := .bool (decide ((b64 (before a b)) = 1))) (.inr rfl) .nil Try.results4 rfl ?_
          exact fun w' hs => ⟨congrArg (fun b => Ending.returned (Value.bool b)) (show (decide ((b64 (before a b)) = 1)) = true from (ahead_before' ‹_›)), hs⟩

end Go.Proofs.Ytldkjjnjdjfipaa
