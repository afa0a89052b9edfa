/- RecordDead, walked. -/
import Derived.Test.YtldkjjnjdjfipaaWPk2
namespace Go.Proofs.Ytldkjjnjdjfipaa
open Go Go.RowKit
set_option linter.unusedVariables false
set_option linter.unusedSimpArgs false
set_option maxRecDepth 10000
set_option maxHeartbeats 1000000

theorem packB_dead (r : Rec) : packB (Rec.mk true r.key r.value r.seq) = packB deadR := rfl

theorem dead_law (r : Rec) (w : World) : Pure Try.prog 5 #[.agg (recV r).toArray] w (.bool true) := by
  refine calls_S (n := 47) (σ0 := (upd fr0 0 (.agg #[.bool (r.dead), .int .i64 (r.key.toInt), .int .i64 (r.value.toInt), .int .i64 (r.seq.toInt)]))) (D := []) (A := []) Try.func5 rfl Try.ntmps5 rfl (a1_fr _) (SH.start w) ?_
  refine wpS_seq ?_
  refine wpS_region ?_
  refine s_e rfl ?_
  refine e_box (v := .agg #[.bool (r.dead), .int .i64 (r.key.toInt), .int .i64 (r.value.toInt), .int .i64 (r.seq.toInt)]) (l := [.bool (r.dead), .int .i64 (r.key.toInt), .int .i64 (r.value.toInt), .int .i64 (r.seq.toInt)]) rfl rfl ?_
  intro b_1
  refine s_y (v := .bool false) (y_assign rfl) rfl ?_
  refine wpL_nil ?_
  refine thenS_n ?_
  refine wpS_seq ?_
  refine wpS_region ?_
  refine s_y (v := .agg #[.bool (r.dead), .int .i64 (r.key.toInt), .int .i64 (r.value.toInt), .int .i64 (r.seq.toInt)]) (y_loadN (vs := [.bool (r.dead), .int .i64 (r.key.toInt), .int .i64 (r.value.toInt), .int .i64 (r.seq.toInt)]) rfl Try.isAgg23 Try.sizeOf23 (ownN .h rfl)) rfl ?_
  refine s_e rfl ?_
  refine e_alloc (l := [.bool false, .int .i64 0, .int .i64 0, .int .i64 0]) Try.zeroValue23 rfl ?_
  intro b_2
  refine s_e0 ?_
  refine e_store (vs := [.bool (r.dead), .int .i64 (r.key.toInt), .int .i64 (r.value.toInt), .int .i64 (r.seq.toInt)]) (l' := [.bool (r.dead), .int .i64 (r.key.toInt), .int .i64 (r.value.toInt), .int .i64 (r.seq.toInt)]) rfl rfl rfl rfl Try.sizeOf23 .h (Nat.le_of_ble_eq_true rfl) rfl ?_
  refine wpL_nil ?_
  refine thenS_n ?_
  refine wpS_seq ?_
  refine wpS_region ?_
  refine s_y (v := .pointer (some ⟨b_2, 0, none⟩)) (y_fieldAddr (o' := 0) rfl Try.underlying23 rfl Try.sizeOf4 (by decide) rfl) rfl ?_
  refine s_e0 ?_
  refine e_store (vs := [.bool true]) (l' := [.bool true, .int .i64 (r.key.toInt), .int .i64 (r.value.toInt), .int .i64 (r.seq.toInt)]) rfl rfl rfl rfl Try.sizeOf4 .h (Nat.le_of_ble_eq_true rfl) rfl ?_
  refine wpL_nil ?_
  refine thenS_n ?_
  refine wpS_seq ?_
  refine wpS_region ?_
  refine s_y (v := .agg #[.bool (r.dead), .int .i64 (r.key.toInt), .int .i64 (r.value.toInt), .int .i64 (r.seq.toInt)]) (y_loadN (vs := [.bool (r.dead), .int .i64 (r.key.toInt), .int .i64 (r.value.toInt), .int .i64 (r.seq.toInt)]) rfl Try.isAgg23 Try.sizeOf23 (ownN (.t .h) rfl)) rfl ?_
  refine s_e rfl ?_
  refine e_alloc (l := [.bool false, .int .i64 0, .int .i64 0, .int .i64 0]) Try.zeroValue23 rfl ?_
  intro b_3
  refine s_e0 ?_
  refine e_store (vs := [.bool (r.dead), .int .i64 (r.key.toInt), .int .i64 (r.value.toInt), .int .i64 (r.seq.toInt)]) (l' := [.bool (r.dead), .int .i64 (r.key.toInt), .int .i64 (r.value.toInt), .int .i64 (r.seq.toInt)]) rfl rfl rfl rfl Try.sizeOf23 .h (Nat.le_of_ble_eq_true rfl) rfl ?_
  refine wpL_nil ?_
  refine thenS_n ?_
  refine wpS_seq ?_
  refine wpS_region ?_
  refine s_y (v := .pointer (some ⟨b_3, 0, none⟩)) (y_fieldAddr (o' := 0) rfl Try.underlying23 rfl Try.sizeOf4 (by decide) rfl) rfl ?_
  refine s_e0 ?_
  refine e_store (vs := [.bool false]) (l' := [.bool false, .int .i64 (r.key.toInt), .int .i64 (r.value.toInt), .int .i64 (r.seq.toInt)]) rfl rfl rfl rfl Try.sizeOf4 .h (Nat.le_of_ble_eq_true rfl) rfl ?_
  refine wpL_nil ?_
  refine thenS_n ?_
  refine wpS_seq ?_
  refine wpS_region ?_
  refine s_y (v := .bool true) (y_call (args := #[]) (v := .bool true) Try.call44 ev0 (fun w hs => awake09_c w)) rfl ?_
  refine s_y (v := .bool true) (y_move rfl) rfl ?_
  refine s_gy (y_loadN (vs := [.bool true, .int .i64 (r.key.toInt), .int .i64 (r.value.toInt), .int .i64 (r.seq.toInt)]) rfl Try.isAgg23 Try.sizeOf23 (ownN (.t .h) rfl)) rfl rfl rfl rfl rfl rfl ?_
  refine s_gy (y_call (args := #[.agg #[.bool true, .int .i64 (r.key.toInt), .int .i64 (r.value.toInt), .int .i64 (r.seq.toInt)]]) (v := .agg (((packB (Rec.mk true r.key r.value r.seq)).flatMap byteV)).toArray) Try.call48 (ev1 rfl) (fun w hs => pack_c (Rec.mk true r.key r.value r.seq) w)) rfl rfl rfl rfl rfl rfl ?_
  refine s_gy (y_call (args := #[]) (v := .agg #[.bool (deadR.dead), .int .i64 (deadR.key.toInt), .int .i64 (deadR.value.toInt), .int .i64 (deadR.seq.toInt)]) Try.call49 ev0 (fun w hs => dead_c w)) rfl rfl rfl rfl rfl rfl ?_
  refine s_gy (y_call (args := #[.agg #[.bool (deadR.dead), .int .i64 (deadR.key.toInt), .int .i64 (deadR.value.toInt), .int .i64 (deadR.seq.toInt)]]) (v := .agg (((packB deadR).flatMap byteV)).toArray) Try.call48 (ev1 rfl) (fun w hs => pack_c deadR w)) rfl rfl rfl rfl rfl rfl ?_
  refine s_gy (y_eqlS (a := (((packB (Rec.mk true r.key r.value r.seq)).flatMap byteV)).toArray) (b := (((packB deadR).flatMap byteV)).toArray) (c := decide ((packB (Rec.mk true r.key r.value r.seq)) = (packB deadR))) Try.eqGuardType30 (fun w => equalB32 w (packB (Rec.mk true r.key r.value r.seq)) (packB deadR) (packB_len _) (packB_len _)) rfl rfl) rfl rfl rfl rfl rfl rfl ?_
  refine s_y (v := .bool (decide ((packB (Rec.mk true r.key r.value r.seq)) = (packB deadR)))) (y_pickT (v := .bool (decide ((packB (Rec.mk true r.key r.value r.seq)) = (packB deadR)))) rfl rfl rfl) rfl ?_
  refine s_y (v := .bool (decide ((packB (Rec.mk true r.key r.value r.seq)) = (packB deadR)))) (y_move rfl) rfl ?_
  refine s_gy (y_loadN (vs := [.bool true, .int .i64 (r.key.toInt), .int .i64 (r.value.toInt), .int .i64 (r.seq.toInt)]) rfl Try.isAgg23 Try.sizeOf23 (ownN (.t .h) rfl)) rfl rfl rfl rfl (b' := decide ((packB (Rec.mk true r.key r.value r.seq)) = (packB deadR))) rfl (decide_eq_true (packB_dead r)) ?_
  refine s_gy (y_loadN (vs := [.bool false, .int .i64 (r.key.toInt), .int .i64 (r.value.toInt), .int .i64 (r.seq.toInt)]) rfl Try.isAgg23 Try.sizeOf23 (ownN .h rfl)) rfl rfl rfl rfl (b' := decide ((packB (Rec.mk true r.key r.value r.seq)) = (packB deadR))) rfl (decide_eq_true (packB_dead r)) ?_
  refine s_gy (y_call (args := #[.agg #[.bool true, .int .i64 (r.key.toInt), .int .i64 (r.value.toInt), .int .i64 (r.seq.toInt)], .agg #[.bool false, .int .i64 (r.key.toInt), .int .i64 (r.value.toInt), .int .i64 (r.seq.toInt)]]) (v := .int .u64 ((b64 (before (Rec.mk true r.key r.value r.seq) (Rec.mk false r.key r.value r.seq))).toNat)) Try.call42 (ev2 rfl rfl) (fun w hs => before_c (Rec.mk true r.key r.value r.seq) (Rec.mk false r.key r.value r.seq) w)) rfl rfl rfl rfl (b' := decide ((packB (Rec.mk true r.key r.value r.seq)) = (packB deadR))) rfl (decide_eq_true (packB_dead r)) ?_
  refine s_gy (y_eql (a := (b64 (before (Rec.mk true r.key r.value r.seq) (Rec.mk false r.key r.value r.seq))).toNat) (b := 0) (c := decide ((b64 (before (Rec.mk true r.key r.value r.seq) (Rec.mk false r.key r.value r.seq))) = 0)) rfl rfl (u_eqlL _ 0 (by decide))) rfl rfl rfl rfl (b' := decide ((packB (Rec.mk true r.key r.value r.seq)) = (packB deadR))) rfl (decide_eq_true (packB_dead r)) ?_
  refine s_y (v := .bool (decide ((b64 (before (Rec.mk true r.key r.value r.seq) (Rec.mk false r.key r.value r.seq))) = 0))) (y_pickT (b := decide ((packB (Rec.mk true r.key r.value r.seq)) = (packB deadR))) (v := .bool (decide ((b64 (before (Rec.mk true r.key r.value r.seq) (Rec.mk false r.key r.value r.seq))) = 0))) rfl (decide_eq_true (packB_dead r)) rfl) rfl ?_
  refine s_y (v := .bool (decide ((b64 (before (Rec.mk true r.key r.value r.seq) (Rec.mk false r.key r.value r.seq))) = 0))) (y_move rfl) rfl ?_
  refine s_gy (y_loadN (vs := [.bool false, .int .i64 (r.key.toInt), .int .i64 (r.value.toInt), .int .i64 (r.seq.toInt)]) rfl Try.isAgg23 Try.sizeOf23 (ownN .h rfl)) rfl rfl rfl rfl (b' := decide ((b64 (before (Rec.mk true r.key r.value r.seq) (Rec.mk false r.key r.value r.seq))) = 0)) rfl (by simp [before, ahead, b64, deadR]) ?_
  refine s_gy (y_loadN (vs := [.bool true, .int .i64 (r.key.toInt), .int .i64 (r.value.toInt), .int .i64 (r.seq.toInt)]) rfl Try.isAgg23 Try.sizeOf23 (ownN (.t .h) rfl)) rfl rfl rfl rfl (b' := decide ((b64 (before (Rec.mk true r.key r.value r.seq) (Rec.mk false r.key r.value r.seq))) = 0)) rfl (by simp [before, ahead, b64, deadR]) ?_
  refine s_gy (y_call (args := #[.agg #[.bool false, .int .i64 (r.key.toInt), .int .i64 (r.value.toInt), .int .i64 (r.seq.toInt)], .agg #[.bool true, .int .i64 (r.key.toInt), .int .i64 (r.value.toInt), .int .i64 (r.seq.toInt)]]) (v := .int .u64 ((b64 (before (Rec.mk false r.key r.value r.seq) (Rec.mk true r.key r.value r.seq))).toNat)) Try.call42 (ev2 rfl rfl) (fun w hs => before_c (Rec.mk false r.key r.value r.seq) (Rec.mk true r.key r.value r.seq) w)) rfl rfl rfl rfl (b' := decide ((b64 (before (Rec.mk true r.key r.value r.seq) (Rec.mk false r.key r.value r.seq))) = 0)) rfl (by simp [before, ahead, b64, deadR]) ?_
  refine s_gy (y_eql (a := (b64 (before (Rec.mk false r.key r.value r.seq) (Rec.mk true r.key r.value r.seq))).toNat) (b := 1) (c := decide ((b64 (before (Rec.mk false r.key r.value r.seq) (Rec.mk true r.key r.value r.seq))) = 1)) rfl rfl (u_eqlL _ 1 (by decide))) rfl rfl rfl rfl (b' := decide ((b64 (before (Rec.mk true r.key r.value r.seq) (Rec.mk false r.key r.value r.seq))) = 0)) rfl (by simp [before, ahead, b64, deadR]) ?_
  refine s_y (v := .bool (decide ((b64 (before (Rec.mk false r.key r.value r.seq) (Rec.mk true r.key r.value r.seq))) = 1))) (y_pickT (b := decide ((b64 (before (Rec.mk true r.key r.value r.seq) (Rec.mk false r.key r.value r.seq))) = 0)) (v := .bool (decide ((b64 (before (Rec.mk false r.key r.value r.seq) (Rec.mk true r.key r.value r.seq))) = 1))) rfl (by simp [before, ahead, b64, deadR]) rfl) rfl ?_
  refine s_y (v := .bool (decide ((b64 (before (Rec.mk false r.key r.value r.seq) (Rec.mk true r.key r.value r.seq))) = 1))) (y_move rfl) rfl ?_
  refine s_gy (y_loadN (vs := [.bool false, .int .i64 (r.key.toInt), .int .i64 (r.value.toInt), .int .i64 (r.seq.toInt)]) rfl Try.isAgg23 Try.sizeOf23 (ownN .h rfl)) rfl rfl rfl rfl (b' := decide ((b64 (before (Rec.mk false r.key r.value r.seq) (Rec.mk true r.key r.value r.seq))) = 1)) rfl (by simp [before, ahead, b64, deadR]) ?_
  refine s_gy (y_loadN (vs := [.bool true, .int .i64 (r.key.toInt), .int .i64 (r.value.toInt), .int .i64 (r.seq.toInt)]) rfl Try.isAgg23 Try.sizeOf23 (ownN (.t .h) rfl)) rfl rfl rfl rfl (b' := decide ((b64 (before (Rec.mk false r.key r.value r.seq) (Rec.mk true r.key r.value r.seq))) = 1)) rfl (by simp [before, ahead, b64, deadR]) ?_
  refine s_gy (y_call (args := #[.agg #[.bool false, .int .i64 (r.key.toInt), .int .i64 (r.value.toInt), .int .i64 (r.seq.toInt)], .agg #[.bool true, .int .i64 (r.key.toInt), .int .i64 (r.value.toInt), .int .i64 (r.seq.toInt)]]) (v := .int .u64 ((b64 (ahead (Rec.mk false r.key r.value r.seq) (Rec.mk true r.key r.value r.seq))).toNat)) Try.call43 (ev2 rfl rfl) (fun w hs => ahead_c (Rec.mk false r.key r.value r.seq) (Rec.mk true r.key r.value r.seq) w)) rfl rfl rfl rfl (b' := decide ((b64 (before (Rec.mk false r.key r.value r.seq) (Rec.mk true r.key r.value r.seq))) = 1)) rfl (by simp [before, ahead, b64, deadR]) ?_
  refine s_gy (y_eql (a := (b64 (ahead (Rec.mk false r.key r.value r.seq) (Rec.mk true r.key r.value r.seq))).toNat) (b := 1) (c := decide ((b64 (ahead (Rec.mk false r.key r.value r.seq) (Rec.mk true r.key r.value r.seq))) = 1)) rfl rfl (u_eqlL _ 1 (by decide))) rfl rfl rfl rfl (b' := decide ((b64 (before (Rec.mk false r.key r.value r.seq) (Rec.mk true r.key r.value r.seq))) = 1)) rfl (by simp [before, ahead, b64, deadR]) ?_
  refine s_y (v := .bool (decide ((b64 (ahead (Rec.mk false r.key r.value r.seq) (Rec.mk true r.key r.value r.seq))) = 1))) (y_pickT (b := decide ((b64 (before (Rec.mk false r.key r.value r.seq) (Rec.mk true r.key r.value r.seq))) = 1)) (v := .bool (decide ((b64 (ahead (Rec.mk false r.key r.value r.seq) (Rec.mk true r.key r.value r.seq))) = 1))) rfl (by simp [before, ahead, b64, deadR]) rfl) rfl ?_
  refine s_y (v := .bool (decide ((b64 (ahead (Rec.mk false r.key r.value r.seq) (Rec.mk true r.key r.value r.seq))) = 1))) (y_move rfl) rfl ?_
  refine s_gy (y_loadN (vs := [.bool true, .int .i64 (r.key.toInt), .int .i64 (r.value.toInt), .int .i64 (r.seq.toInt)]) rfl Try.isAgg23 Try.sizeOf23 (ownN (.t .h) rfl)) rfl rfl rfl rfl (b' := decide ((b64 (ahead (Rec.mk false r.key r.value r.seq) (Rec.mk true r.key r.value r.seq))) = 1)) rfl (by simp [before, ahead, b64, deadR]) ?_
  refine s_gy (y_loadN (vs := [.bool true, .int .i64 (r.key.toInt), .int .i64 (r.value.toInt), .int .i64 (r.seq.toInt)]) rfl Try.isAgg23 Try.sizeOf23 (ownN (.t .h) rfl)) rfl rfl rfl rfl (b' := decide ((b64 (ahead (Rec.mk false r.key r.value r.seq) (Rec.mk true r.key r.value r.seq))) = 1)) rfl (by simp [before, ahead, b64, deadR]) ?_
  refine s_gy (y_call (args := #[.agg #[.bool true, .int .i64 (r.key.toInt), .int .i64 (r.value.toInt), .int .i64 (r.seq.toInt)], .agg #[.bool true, .int .i64 (r.key.toInt), .int .i64 (r.value.toInt), .int .i64 (r.seq.toInt)]]) (v := .int .u64 ((b64 (ahead (Rec.mk true r.key r.value r.seq) (Rec.mk true r.key r.value r.seq))).toNat)) Try.call43 (ev2 rfl rfl) (fun w hs => ahead_c (Rec.mk true r.key r.value r.seq) (Rec.mk true r.key r.value r.seq) w)) rfl rfl rfl rfl (b' := decide ((b64 (ahead (Rec.mk false r.key r.value r.seq) (Rec.mk true r.key r.value r.seq))) = 1)) rfl (by simp [before, ahead, b64, deadR]) ?_
  refine s_gy (y_eql (a := (b64 (ahead (Rec.mk true r.key r.value r.seq) (Rec.mk true r.key r.value r.seq))).toNat) (b := 0) (c := decide ((b64 (ahead (Rec.mk true r.key r.value r.seq) (Rec.mk true r.key r.value r.seq))) = 0)) rfl rfl (u_eqlL _ 0 (by decide))) rfl rfl rfl rfl (b' := decide ((b64 (ahead (Rec.mk false r.key r.value r.seq) (Rec.mk true r.key r.value r.seq))) = 1)) rfl (by simp [before, ahead, b64, deadR]) ?_
  refine s_y (v := .bool (decide ((b64 (ahead (Rec.mk true r.key r.value r.seq) (Rec.mk true r.key r.value r.seq))) = 0))) (y_pickT (b := decide ((b64 (ahead (Rec.mk false r.key r.value r.seq) (Rec.mk true r.key r.value r.seq))) = 1)) (v := .bool (decide ((b64 (ahead (Rec.mk true r.key r.value r.seq) (Rec.mk true r.key r.value r.seq))) = 0))) rfl (by simp [before, ahead, b64, deadR]) rfl) rfl ?_
  refine s_y (v := .bool (decide ((b64 (ahead (Rec.mk true r.key r.value r.seq) (Rec.mk true r.key r.value r.seq))) = 0))) (y_move rfl) rfl ?_
  refine s_gy (y_loadN (vs := [.bool false, .int .i64 (r.key.toInt), .int .i64 (r.value.toInt), .int .i64 (r.seq.toInt)]) rfl Try.isAgg23 Try.sizeOf23 (ownN .h rfl)) rfl rfl rfl rfl (b' := decide ((b64 (ahead (Rec.mk true r.key r.value r.seq) (Rec.mk true r.key r.value r.seq))) = 0)) rfl (by simp [before, ahead, b64, deadR]) ?_
  refine s_gy (y_loadN (vs := [.bool false, .int .i64 (r.key.toInt), .int .i64 (r.value.toInt), .int .i64 (r.seq.toInt)]) rfl Try.isAgg23 Try.sizeOf23 (ownN .h rfl)) rfl rfl rfl rfl (b' := decide ((b64 (ahead (Rec.mk true r.key r.value r.seq) (Rec.mk true r.key r.value r.seq))) = 0)) rfl (by simp [before, ahead, b64, deadR]) ?_
  refine s_gy (y_call (args := #[.agg #[.bool false, .int .i64 (r.key.toInt), .int .i64 (r.value.toInt), .int .i64 (r.seq.toInt)], .agg #[.bool false, .int .i64 (r.key.toInt), .int .i64 (r.value.toInt), .int .i64 (r.seq.toInt)]]) (v := .int .u64 ((b64 (before (Rec.mk false r.key r.value r.seq) (Rec.mk false r.key r.value r.seq))).toNat)) Try.call42 (ev2 rfl rfl) (fun w hs => before_c (Rec.mk false r.key r.value r.seq) (Rec.mk false r.key r.value r.seq) w)) rfl rfl rfl rfl (b' := decide ((b64 (ahead (Rec.mk true r.key r.value r.seq) (Rec.mk true r.key r.value r.seq))) = 0)) rfl (by simp [before, ahead, b64, deadR]) ?_
  refine s_gy (y_eql (a := (b64 (before (Rec.mk false r.key r.value r.seq) (Rec.mk false r.key r.value r.seq))).toNat) (b := 0) (c := decide ((b64 (before (Rec.mk false r.key r.value r.seq) (Rec.mk false r.key r.value r.seq))) = 0)) rfl rfl (u_eqlL _ 0 (by decide))) rfl rfl rfl rfl (b' := decide ((b64 (ahead (Rec.mk true r.key r.value r.seq) (Rec.mk true r.key r.value r.seq))) = 0)) rfl (by simp [before, ahead, b64, deadR]) ?_
  refine s_y (v := .bool (decide ((b64 (before (Rec.mk false r.key r.value r.seq) (Rec.mk false r.key r.value r.seq))) = 0))) (y_pickT (b := decide ((b64 (ahead (Rec.mk true r.key r.value r.seq) (Rec.mk true r.key r.value r.seq))) = 0)) (v := .bool (decide ((b64 (before (Rec.mk false r.key r.value r.seq) (Rec.mk false r.key r.value r.seq))) = 0))) rfl (by simp [before, ahead, b64, deadR]) rfl) rfl ?_
  refine s_y (v := .bool (decide ((b64 (before (Rec.mk false r.key r.value r.seq) (Rec.mk false r.key r.value r.seq))) = 0))) (y_assign rfl) rfl ?_
  refine wpL_nil ?_
  refine thenS_n ?_
  refine wpS_ret ?_
  refine fin1 (M := []) (v := .bool (decide ((b64 (before (Rec.mk false r.key r.value r.seq) (Rec.mk false r.key r.value r.seq))) = 0))) (.inr rfl) (.nil) Try.results5 rfl ?_
  exact fun w' hs => ⟨congrArg (fun b => Ending.returned (Value.bool b)) (show (decide ((b64 (before (Rec.mk false r.key r.value r.seq) (Rec.mk false r.key r.value r.seq))) = 0)) = true from by simp [before, ahead, b64]), hs⟩

end Go.Proofs.Ytldkjjnjdjfipaa
