/- A nil wire; the wire is awake; walked. -/
import Derived.Test.YtldkjjnjdjfipaaWWir3
namespace Go.Proofs.Ytldkjjnjdjfipaa
open Go Go.RowKit
set_option linter.unusedVariables false
set_option linter.unusedSimpArgs false
set_option maxRecDepth 10000
set_option maxHeartbeats 1000000

theorem take0_c (t : Int) (w : World) : Pure Try.prog 109 #[.pointer none, .int .i64 t] w (.tuple #[.slice none 0 0, .bool false]) := by
  refine calls_S (n := 36) (σ0 := (upd (upd fr0 0 (.pointer none)) 1 (.int .i64 t))) (D := []) (A := []) Try.func109 rfl Try.ntmps109 rfl (a2_fr _ _) (SH.start w) ?_
  refine wpS_seq ?_
  refine wpS_region ?_
  refine s_e rfl ?_
  refine e_box (v := .pointer none) (l := [.pointer none]) rfl rfl ?_
  intro b_1
  refine s_e rfl ?_
  refine e_box (v := .int .i64 t) (l := [.int .i64 t]) rfl rfl ?_
  intro b_2
  refine s_e rfl ?_
  refine e_alloc (l := [.slice none 0 0]) Try.zeroValue61 rfl ?_
  intro b_3
  refine s_e rfl ?_
  refine e_alloc (l := [.bool false]) Try.zeroValue4 rfl ?_
  intro b_4
  refine wpL_nil ?_
  refine thenS_n ?_
  refine wpS_seq ?_
  refine wpS_seq ?_
  refine wpS_region ?_
  refine s_y (v := .pointer none) (y_load1 rfl Try.isAgg125 (own1 (.t (.t (.t .h))) rfl)) rfl ?_
  refine s_y (v := .bool true) (y_ptrEq rfl rfl Try.underlying125 (by kernel_rfl) rfl) rfl ?_
  refine wpL_nil ?_
  refine thenS_n ?_
  refine wpS_cond_t rfl ?_
  refine wpS_seq ?_
  refine wpS_region ?_
  refine s_e0 ?_
  refine e_store (vs := [.slice none 0 0]) (l' := [.slice none 0 0]) rfl rfl rfl rfl Try.sizeOf61 (.t .h) (Nat.le_of_ble_eq_true rfl) rfl ?_
  refine s_e0 ?_
  refine e_store (vs := [.bool false]) (l' := [.bool false]) rfl rfl rfl rfl Try.sizeOf4 (.t .h) (Nat.le_of_ble_eq_true rfl) rfl ?_
  refine wpL_nil ?_
  refine thenS_n ?_
  refine wpS_ret ?_
  refine thenS_r ?_
  refine fin2 (M := [cel b_3 61 [.slice none 0 0], cel b_4 4 [.bool false]]) (.inr rfl) (.p (.t .h) (.p .h .nil)) Try.results109 (rvC1 (v := .slice none 0 0) rfl Try.isAgg61 (fun w hs => own1 .h rfl w hs)) (rvC1 (v := .bool false) rfl Try.isAgg4 (fun w hs => own1 (.t .h) rfl w hs)) ?_
  intro w' hs; exact ⟨rfl, SH.dropAll (L := []) [_, _] hs⟩

theorem clear0_c (t : Int) (w : World) : Pure Try.prog 117 #[.pointer none, .int .i64 t] w (.tuple #[]) := by
  refine calls_S (n := 16) (σ0 := (upd (upd fr0 0 (.pointer none)) 1 (.int .i64 t))) (D := []) (A := []) Try.func117 rfl Try.ntmps117 rfl (a2_fr _ _) (SH.start w) ?_
  refine wpS_seq ?_
  refine wpS_region ?_
  refine s_e rfl ?_
  refine e_box (v := .int .i64 t) (l := [.int .i64 t]) rfl rfl ?_
  intro b_1
  refine wpL_nil ?_
  refine thenS_n ?_
  refine wpS_seq ?_
  refine wpS_region ?_
  refine s_y (v := .pointer none) (y_move rfl) rfl ?_
  refine s_y (v := .bool false) (y_ptrNe rfl rfl Try.underlying125 (by kernel_rfl) rfl) rfl ?_
  refine wpL_nil ?_
  refine thenS_n ?_
  refine wpS_cond_f rfl ?_
  refine wpS_skip ?_
  exact fin0 (.inl rfl) (.nil) Try.results117 (fun w' hs => ⟨rfl, hs⟩)

theorem fork0_c (w : World) : Pure Try.prog 119 #[.pointer none] w (.pointer none) := by
  refine calls_S (n := 17) (σ0 := (upd fr0 0 (.pointer none))) (D := []) (A := []) Try.func119 rfl Try.ntmps119 rfl (a1_fr _) (SH.start w) ?_
  refine wpS_seq ?_
  refine wpS_region ?_
  refine s_y (v := .pointer none) (y_assign rfl) rfl ?_
  refine wpL_nil ?_
  refine thenS_n ?_
  refine wpS_seq ?_
  refine wpS_seq ?_
  refine wpS_region ?_
  refine s_y (v := .pointer none) (y_move rfl) rfl ?_
  refine s_y (v := .bool true) (y_ptrEq rfl rfl Try.underlying125 (by kernel_rfl) rfl) rfl ?_
  refine wpL_nil ?_
  refine thenS_n ?_
  refine wpS_cond_t rfl ?_
  refine wpS_seq ?_
  refine wpS_region ?_
  refine s_y (v := .pointer none) (y_assign rfl) rfl ?_
  refine wpL_nil ?_
  refine thenS_n ?_
  refine wpS_ret ?_
  refine thenS_r ?_
  refine fin1 (M := []) (v := .pointer none) (.inr rfl) (.nil) Try.results119 rfl ?_
  exact fun w' hs => ⟨rfl, hs⟩

theorem awake19_c (w : World) : Pure Try.prog 103 #[] w (.bool true) := by
  refine calls_S (n := 20) (σ0 := fr0) (D := []) (A := []) Try.func103 rfl Try.ntmps103 rfl (a0_fr) (SH.start w) ?_
  refine wpS_seq ?_
  refine wpS_region ?_
  refine s_y (v := .bool false) (y_assign rfl) rfl ?_
  refine wpL_nil ?_
  refine thenS_n ?_
  refine wpS_seq ?_
  refine wpS_region ?_
  refine s_e rfl ?_
  refine e_call (f := 102) (args := #[]) (X := Nat) (A := []) (M := []) (V := fun b => .pointer (some ⟨b, 0, none⟩)) (A' := fun b => [cel b 215 [.slice none 0 0, .slice none 0 0]]) (C := fun _ => True) Try.call102 ev0 (.nil) (fun w hs => new_c w) ?_
  rintro wb_1 -
  refine s_y (v := .pointer (some ⟨wb_1, 0, none⟩)) (y_assign rfl) rfl ?_
  refine wpL_nil ?_
  refine thenS_n ?_
  refine wpS_seq ?_
  refine wpS_seq ?_
  refine wpS_region ?_
  refine s_y (v := .pointer (some ⟨wb_1, 0, none⟩)) (y_move rfl) rfl ?_
  refine s_y (v := .bool false) (y_ptrEq rfl rfl Try.underlying125 (by kernel_rfl) rfl) rfl ?_
  refine wpL_nil ?_
  refine thenS_n ?_
  refine wpS_cond_f rfl ?_
  refine wpS_skip ?_
  refine thenS_n ?_
  refine wpS_seq ?_
  refine wpS_region ?_
  refine s_y (v := .pointer (some ⟨wb_1, 0, none⟩)) (y_move rfl) rfl ?_
  refine s_e rfl ?_
  refine e_bsliceL (e := 5) (m := [(0, .int .u8 5)]) (l := [.int .u8 5]) (evc rfl evn) (fun w => by kernel_rfl) ?_
  intro b_2
  refine s_e rfl ?_
  refine OpE.ent (fun w hs => famb_nil w (SH.nil0 (sz := 2) (t := 218) w (SH.nil0 (sz := 2) (t := 218) w hs))) ?_
  refine OpE.ent (L' := [famb (([] : List Let) ++ ([] : List Let)), osl none 0 0 2 218 (([] : List Let).flatMap letV), osl none 0 0 2 218 (([] : List Let).flatMap letV), cel b_2 5 [.int .u8 5], cel wb_1 215 [.slice none 0 0, .slice none 0 0]]) (fun w hs => hs) ?_
  refine e_call (f := 104) (args := #[.pointer (some ⟨wb_1, 0, none⟩), .int .i64 1, .slice (some ⟨b_2, 0, none⟩) 1 1]) (X := ((Option Addr × Nat) × (Option Addr × Nat)) × (Option Addr × Nat)) (A := [cel wb_1 215 [.slice none 0 0, .slice none 0 0], osl none 0 0 2 218 (([] : List Let).flatMap letV), osl none 0 0 2 218 (([] : List Let).flatMap letV), famb (([] : List Let) ++ ([] : List Let))]) (M := [cel b_2 5 [.int .u8 5]]) (V := fun _ => .tuple #[]) (A' := fun x => [cel wb_1 215 [.slice x.1.1.1 ((([] : List Let) ++ [(Let.mk 1 x.2.1 ([5]).length x.2.2 ([5]))]).length) x.1.1.2, .slice x.1.2.1 (([] : List Let).length) x.1.2.2], osl x.1.1.1 x.1.1.2 ((([] : List Let) ++ [(Let.mk 1 x.2.1 ([5]).length x.2.2 ([5]))]).length) 2 218 ((([] : List Let) ++ [(Let.mk 1 x.2.1 ([5]).length x.2.2 ([5]))]).flatMap letV), osl x.1.2.1 x.1.2.2 (([] : List Let).length) 2 218 (([] : List Let).flatMap letV), famb ((([] : List Let) ++ [(Let.mk 1 x.2.1 ([5]).length x.2.2 ([5]))]) ++ ([] : List Let))]) (C := fun _ => True) Try.call104 (ev3 rfl rfl rfl) (.p (.t (.t (.t (.t .h)))) (.p (.t .h) (.p (.t .h) (.p .h (.p .h .nil))))) (fun w hs => (send_c wb_1 none 0 none 0 ([] : List Let) ([] : List Let) 1 (some ⟨b_2, 0, none⟩) 1 1 ([5]) w (by first | omega | (simp; done)) rfl (celR (.t (.t (.t (.t .h)))) w hs) (by omega) (fun hl => (show _ ∧ _ from apM (A := [cel wb_1 215 [.slice none 0 0, .slice none 0 0], osl none 0 0 2 218 (([] : List Let).flatMap letV), osl none 0 0 2 218 (([] : List Let).flatMap letV), famb (([] : List Let) ++ ([] : List Let))]) hs .h (by simp [cel, blk, aB])).2) (SH.lendW hs)).mono (fun e w2 hx => hx.elim (fun x hx => ⟨x, hx.1, hx.2, trivial⟩))) ?_
  rintro ⟨⟨⟨ua_3, uc_4⟩, ⟨ba_5, bc_6⟩⟩, ⟨la_7, lc_8⟩⟩ -
  try have hul : (([] : List Let) ++ [(Let.mk 1 la_7 ([5]).length lc_8 ([5]))]).length ≤ 3 := by simp [dlU, cutL]
  try have hbl : ([] : List Let).length ≤ 3 := by simp [dlB]
  refine wpL_nil ?_
  refine thenS_n ?_
  refine wpS_seq ?_
  refine wpS_region ?_
  refine s_y (v := .pointer (some ⟨wb_1, 0, none⟩)) (y_move rfl) rfl ?_
  refine s_y (v := .int .i64 ((((([] : List Let) ++ [(Let.mk 1 la_7 ([5]).length lc_8 ([5]))]).length : Nat) : Int))) (y_call (args := #[.pointer (some ⟨wb_1, 0, none⟩)]) (v := .int .i64 ((((([] : List Let) ++ [(Let.mk 1 la_7 ([5]).length lc_8 ([5]))]).length : Nat) : Int))) Try.call106 (ev1 rfl) (fun w hs => under_c wb_1 ua_3 ((([] : List Let) ++ [(Let.mk 1 la_7 ([5]).length lc_8 ([5]))]).length) uc_4 w (own1 .h rfl w hs))) rfl ?_
  refine s_y (v := .bool (decide (((([] : List Let) ++ [(Let.mk 1 la_7 ([5]).length lc_8 ([5]))]).length : Nat) = 1))) (y_eql (a := (((([] : List Let) ++ [(Let.mk 1 la_7 ([5]).length lc_8 ([5]))]).length : Nat) : Int)) (b := 1) (c := decide (((([] : List Let) ++ [(Let.mk 1 la_7 ([5]).length lc_8 ([5]))]).length : Nat) = 1)) rfl rfl (decide_eq_decide.2 (by omega))) rfl ?_
  refine s_y (v := .bool (decide (((([] : List Let) ++ [(Let.mk 1 la_7 ([5]).length lc_8 ([5]))]).length : Nat) = 1))) (y_move rfl) rfl ?_
  refine s_gy (y_move rfl) rfl rfl rfl rfl (b' := decide (((([] : List Let) ++ [(Let.mk 1 la_7 ([5]).length lc_8 ([5]))]).length : Nat) = 1)) rfl (decide_eq_true (by simp)) ?_
  refine s_ge rfl rfl rfl rfl (b' := decide (((([] : List Let) ++ [(Let.mk 1 la_7 ([5]).length lc_8 ([5]))]).length : Nat) = 1)) rfl (decide_eq_true (by simp)) ?_
  refine e_call (f := 108) (args := #[.pointer (some ⟨wb_1, 0, none⟩), .int .i64 0]) (X := (Option Addr × Nat) × (Option Addr × Nat)) (A := [cel wb_1 215 [.slice ua_3 ((([] : List Let) ++ [(Let.mk 1 la_7 ([5]).length lc_8 ([5]))]).length) uc_4, .slice ba_5 (([] : List Let).length) bc_6], osl ua_3 uc_4 ((([] : List Let) ++ [(Let.mk 1 la_7 ([5]).length lc_8 ([5]))]).length) 2 218 ((([] : List Let) ++ [(Let.mk 1 la_7 ([5]).length lc_8 ([5]))]).flatMap letV), osl ba_5 bc_6 (([] : List Let).length) 2 218 (([] : List Let).flatMap letV), famb ((([] : List Let) ++ [(Let.mk 1 la_7 ([5]).length lc_8 ([5]))]) ++ ([] : List Let))]) (M := [cel b_2 5 [.int .u8 5]]) (V := fun _ => .bool (decide (0 < (([] : List Let) ++ [(Let.mk 1 la_7 ([5]).length lc_8 ([5]))]).length))) (A' := fun x => [cel wb_1 215 [.slice x.1.1 ((dlU (([] : List Let) ++ [(Let.mk 1 la_7 ([5]).length lc_8 ([5]))]) 0).length) x.1.2, .slice x.2.1 ((dlB (([] : List Let) ++ [(Let.mk 1 la_7 ([5]).length lc_8 ([5]))]) ([] : List Let) 0).length) x.2.2], osl x.1.1 x.1.2 ((dlU (([] : List Let) ++ [(Let.mk 1 la_7 ([5]).length lc_8 ([5]))]) 0).length) 2 218 ((dlU (([] : List Let) ++ [(Let.mk 1 la_7 ([5]).length lc_8 ([5]))]) 0).flatMap letV), osl x.2.1 x.2.2 ((dlB (([] : List Let) ++ [(Let.mk 1 la_7 ([5]).length lc_8 ([5]))]) ([] : List Let) 0).length) 2 218 ((dlB (([] : List Let) ++ [(Let.mk 1 la_7 ([5]).length lc_8 ([5]))]) ([] : List Let) 0).flatMap letV), famb ((dlU (([] : List Let) ++ [(Let.mk 1 la_7 ([5]).length lc_8 ([5]))]) 0) ++ (dlB (([] : List Let) ++ [(Let.mk 1 la_7 ([5]).length lc_8 ([5]))]) ([] : List Let) 0))]) (C := fun _ => True) Try.call108 (ev2 rfl rfl) (.p .h (.p .h (.p .h (.p .h (.p .h .nil))))) (fun w hs => (deliver_c wb_1 ua_3 uc_4 ba_5 bc_6 (([] : List Let) ++ [(Let.mk 1 la_7 ([5]).length lc_8 ([5]))]) ([] : List Let) 0 w (by omega) (by omega) (SH.lendW hs)).mono (fun e w2 hx => hx.elim (fun x hx => ⟨x, hx.1, hx.2, trivial⟩))) ?_
  rintro ⟨⟨ua_9, uc_10⟩, ⟨ba_11, bc_12⟩⟩ -
  try have hul : (dlU (([] : List Let) ++ [(Let.mk 1 la_7 ([5]).length lc_8 ([5]))]) 0).length ≤ 3 := by simp [dlU, cutL]
  try have hbl : (dlB (([] : List Let) ++ [(Let.mk 1 la_7 ([5]).length lc_8 ([5]))]) ([] : List Let) 0).length ≤ 3 := by simp [dlB]
  refine s_y (v := .bool (decide (0 < (([] : List Let) ++ [(Let.mk 1 la_7 ([5]).length lc_8 ([5]))]).length))) (y_pickT (b := decide (((([] : List Let) ++ [(Let.mk 1 la_7 ([5]).length lc_8 ([5]))]).length : Nat) = 1)) (v := .bool (decide (0 < (([] : List Let) ++ [(Let.mk 1 la_7 ([5]).length lc_8 ([5]))]).length))) rfl (decide_eq_true (by simp)) rfl) rfl ?_
  refine s_y (v := .bool (decide (0 < (([] : List Let) ++ [(Let.mk 1 la_7 ([5]).length lc_8 ([5]))]).length))) (y_move rfl) rfl ?_
  refine s_gy (y_move rfl) rfl rfl rfl rfl (b' := decide (0 < (([] : List Let) ++ [(Let.mk 1 la_7 ([5]).length lc_8 ([5]))]).length)) rfl (decide_eq_true (by simp)) ?_
  refine s_gy (y_call (args := #[.pointer (some ⟨wb_1, 0, none⟩), .int .i64 1]) (v := .int .i64 ((((cntT 1 (dlB (([] : List Let) ++ [(Let.mk 1 la_7 ([5]).length lc_8 ([5]))]) ([] : List Let) 0)) : Nat) : Int))) Try.call110 (ev2 rfl rfl) (fun w hs => wait_c wb_1 ba_11 ((dlB (([] : List Let) ++ [(Let.mk 1 la_7 ([5]).length lc_8 ([5]))]) ([] : List Let) 0).length) bc_12 (dlB (([] : List Let) ++ [(Let.mk 1 la_7 ([5]).length lc_8 ([5]))]) ([] : List Let) 0) 1 w (own1 .h rfl w hs) rfl (oslR (.t (.t .h)) w hs) (by omega))) rfl rfl rfl rfl (b' := decide (0 < (([] : List Let) ++ [(Let.mk 1 la_7 ([5]).length lc_8 ([5]))]).length)) rfl (decide_eq_true (by simp)) ?_
  refine s_gy (y_eql (a := (((cntT 1 (dlB (([] : List Let) ++ [(Let.mk 1 la_7 ([5]).length lc_8 ([5]))]) ([] : List Let) 0)) : Nat) : Int)) (b := 1) (c := decide (((cntT 1 (dlB (([] : List Let) ++ [(Let.mk 1 la_7 ([5]).length lc_8 ([5]))]) ([] : List Let) 0)) : Nat) = 1)) rfl rfl (decide_eq_decide.2 (by omega))) rfl rfl rfl rfl (b' := decide (0 < (([] : List Let) ++ [(Let.mk 1 la_7 ([5]).length lc_8 ([5]))]).length)) rfl (decide_eq_true (by simp)) ?_
  refine s_y (v := .bool (decide (((cntT 1 (dlB (([] : List Let) ++ [(Let.mk 1 la_7 ([5]).length lc_8 ([5]))]) ([] : List Let) 0)) : Nat) = 1))) (y_pickT (b := decide (0 < (([] : List Let) ++ [(Let.mk 1 la_7 ([5]).length lc_8 ([5]))]).length)) (v := .bool (decide (((cntT 1 (dlB (([] : List Let) ++ [(Let.mk 1 la_7 ([5]).length lc_8 ([5]))]) ([] : List Let) 0)) : Nat) = 1))) rfl (decide_eq_true (by simp)) rfl) rfl ?_
  refine s_y (v := .bool (decide (((cntT 1 (dlB (([] : List Let) ++ [(Let.mk 1 la_7 ([5]).length lc_8 ([5]))]) ([] : List Let) 0)) : Nat) = 1))) (y_assign rfl) rfl ?_
  refine wpL_nil ?_
  refine thenS_n ?_
  refine wpS_ret ?_
  refine fin1 (v := .bool (decide (((cntT 1 (dlB (([] : List Let) ++ [(Let.mk 1 la_7 ([5]).length lc_8 ([5]))]) ([] : List Let) 0)) : Nat) = 1))) (.inr rfl) (.nil) Try.results103 rfl ?_
  exact fun w' hs => ⟨congrArg (fun b => Ending.returned (Value.bool b)) (show (decide (((cntT 1 (dlB (([] : List Let) ++ [(Let.mk 1 la_7 ([5]).length lc_8 ([5]))]) ([] : List Let) 0)) : Nat) = 1)) = true from (decide_eq_true (by simp [dlB, atI, cntT]))), hs⟩

theorem nil_law (t i : Int) (h1 : -9223372036854775808 ≤ t) (h2 : t < 9223372036854775808) (h3 : -9223372036854775808 ≤ i) (h4 : i < 9223372036854775808) (w : World) : Pure Try.prog 34 #[.int .i64 t, .int .i64 i] w (.bool true) := by
  refine calls_S (n := 65) (σ0 := (upd (upd fr0 0 (.int .i64 t)) 1 (.int .i64 i))) (D := []) (A := []) Try.func34 rfl Try.ntmps34 rfl (a2_fr _ _) (SH.start w) ?_
  refine wpS_seq ?_
  refine wpS_region ?_
  refine s_y (v := .bool false) (y_assign rfl) rfl ?_
  refine wpL_nil ?_
  refine thenS_n ?_
  refine wpS_seq ?_
  refine wpS_region ?_
  refine s_y (v := .pointer none) (y_assign rfl) rfl ?_
  refine wpL_nil ?_
  refine thenS_n ?_
  refine wpS_seq ?_
  refine wpS_region ?_
  refine s_y (v := .pointer none) (y_move rfl) rfl ?_
  refine s_y (v := .int .i64 t) (y_move rfl) rfl ?_
  refine s_e rfl ?_
  refine e_bsliceL (e := 5) (m := [(0, .int .u8 1)]) (l := [.int .u8 1]) (evc rfl evn) (fun w => by kernel_rfl) ?_
  intro b_1
  refine s_e rfl ?_
  refine OpE.y (y_call (args := #[.pointer none, .int .i64 t, .slice (some ⟨b_1, 0, none⟩) 1 1]) (v := .tuple #[]) Try.call104 (ev3 rfl rfl rfl) (fun w hs => send0_c t (some ⟨b_1, 0, none⟩) 1 1 w)) ?_
  refine wpL_nil ?_
  refine thenS_n ?_
  refine wpS_seq ?_
  refine wpS_region ?_
  refine s_y (v := .pointer none) (y_move rfl) rfl ?_
  refine s_y (v := .int .i64 t) (y_move rfl) rfl ?_
  refine s_e rfl ?_
  refine OpE.y (y_call (args := #[.pointer none, .int .i64 t]) (v := .tuple #[]) Try.call117 (ev2 rfl rfl) (fun w hs => clear0_c t w)) ?_
  refine wpL_nil ?_
  refine thenS_n ?_
  refine wpS_seq ?_
  refine wpS_region ?_
  refine s_y (v := .pointer none) (y_move rfl) rfl ?_
  refine s_y (v := .int .i64 t) (y_move rfl) rfl ?_
  refine s_e rfl ?_
  refine OpE.y (y_call (args := #[.pointer none, .int .i64 t]) (v := .tuple #[.slice none 0 0, .bool false]) Try.call109 (ev2 rfl rfl) (fun w hs => take0_c t w)) ?_
  refine s_y (v := .tuple #[.slice none 0 0, .bool false]) (y_move rfl) rfl ?_
  refine s_y (v := .slice none 0 0) (y_extract (v := .slice none 0 0) rfl rfl) rfl ?_
  refine s_y (v := .bool false) (y_extract (v := .bool false) rfl rfl) rfl ?_
  refine s_y (v := .slice none 0 0) (y_assign rfl) rfl ?_
  refine s_y (v := .bool false) (y_assign rfl) rfl ?_
  refine wpL_nil ?_
  refine thenS_n ?_
  refine wpS_seq ?_
  refine wpS_region ?_
  refine s_y (v := .bool true) (y_call (args := #[]) (v := .bool true) Try.call103 ev0 (fun w hs => awake19_c w)) rfl ?_
  refine s_y (v := .bool true) (y_move rfl) rfl ?_
  refine s_gy (y_move rfl) rfl rfl rfl rfl rfl rfl ?_
  refine s_gy (y_call (args := #[.pointer none]) (v := .int .i64 0) Try.call106 (ev1 rfl) (fun w hs => under0_c w)) rfl rfl rfl rfl rfl rfl ?_
  refine s_gy (y_eql (a := 0) (b := 0) (c := true) rfl rfl (by decide)) rfl rfl rfl rfl rfl rfl ?_
  refine s_y (v := .bool true) (y_pickT (v := .bool true) rfl rfl rfl) rfl ?_
  refine s_y (v := .bool true) (y_move rfl) rfl ?_
  refine s_gy (y_move rfl) rfl rfl rfl rfl rfl rfl ?_
  refine s_gy (y_move rfl) rfl rfl rfl rfl rfl rfl ?_
  refine s_ge rfl rfl rfl rfl rfl rfl ?_
  refine OpE.y (y_call (args := #[.pointer none, .int .i64 i]) (v := .bool false) Try.call108 (ev2 rfl rfl) (fun w hs => deliver0_c i w)) ?_
  refine s_gy (y_notK (b := false) (c := true) rfl rfl) rfl rfl rfl rfl rfl rfl ?_
  refine s_y (v := .bool true) (y_pickT (v := .bool true) rfl rfl rfl) rfl ?_
  refine s_y (v := .bool true) (y_move rfl) rfl ?_
  refine s_gy (y_move rfl) rfl rfl rfl rfl rfl rfl ?_
  refine s_gy (y_move rfl) rfl rfl rfl rfl rfl rfl ?_
  refine s_ge rfl rfl rfl rfl rfl rfl ?_
  refine OpE.y (y_call (args := #[.pointer none, .int .i64 i]) (v := .bool false) Try.call107 (ev2 rfl rfl) (fun w hs => drop0_c i w)) ?_
  refine s_gy (y_notK (b := false) (c := true) rfl rfl) rfl rfl rfl rfl rfl rfl ?_
  refine s_y (v := .bool true) (y_pickT (v := .bool true) rfl rfl rfl) rfl ?_
  refine s_y (v := .bool true) (y_move rfl) rfl ?_
  refine s_gy (y_move rfl) rfl rfl rfl rfl rfl rfl ?_
  refine s_gy (y_move rfl) rfl rfl rfl rfl rfl rfl ?_
  refine s_ge rfl rfl rfl rfl rfl rfl ?_
  refine OpE.y (y_call (args := #[.pointer none, .int .i64 i]) (v := .bool false) Try.call105 (ev2 rfl rfl) (fun w hs => double0_c i w)) ?_
  refine s_gy (y_notK (b := false) (c := true) rfl rfl) rfl rfl rfl rfl rfl rfl ?_
  refine s_y (v := .bool true) (y_pickT (v := .bool true) rfl rfl rfl) rfl ?_
  refine s_y (v := .bool true) (y_move rfl) rfl ?_
  refine s_gy (y_move rfl) rfl rfl rfl rfl rfl rfl ?_
  refine s_gy (y_len (ty' := 0) (at_ := #[]) rfl Try.underlying61) rfl rfl rfl rfl rfl rfl ?_
  refine s_gy (y_eql (a := 0) (b := 0) (c := true) rfl rfl (by decide)) rfl rfl rfl rfl rfl rfl ?_
  refine s_y (v := .bool true) (y_pickT (v := .bool true) rfl rfl rfl) rfl ?_
  refine s_y (v := .bool true) (y_move rfl) rfl ?_
  refine s_gy (y_move rfl) rfl rfl rfl rfl rfl rfl ?_
  refine s_gy (y_notK (b := false) (c := true) rfl rfl) rfl rfl rfl rfl rfl rfl ?_
  refine s_y (v := .bool true) (y_pickT (v := .bool true) rfl rfl rfl) rfl ?_
  refine s_y (v := .bool true) (y_move rfl) rfl ?_
  refine s_gy (y_move rfl) rfl rfl rfl rfl rfl rfl ?_
  refine s_gy (y_move rfl) rfl rfl rfl rfl rfl rfl ?_
  refine s_gy (y_call (args := #[.pointer none, .int .i64 t]) (v := .int .i64 0) Try.call110 (ev2 rfl rfl) (fun w hs => wait0_c t w)) rfl rfl rfl rfl rfl rfl ?_
  refine s_gy (y_eql (a := 0) (b := 0) (c := true) rfl rfl (by decide)) rfl rfl rfl rfl rfl rfl ?_
  refine s_y (v := .bool true) (y_pickT (v := .bool true) rfl rfl rfl) rfl ?_
  refine s_y (v := .bool true) (y_move rfl) rfl ?_
  refine s_gy (y_move rfl) rfl rfl rfl rfl rfl rfl ?_
  refine s_ge rfl rfl rfl rfl rfl rfl ?_
  refine OpE.y (y_call (args := #[.pointer none]) (v := .pointer none) Try.call119 (ev1 rfl) (fun w hs => fork0_c  w)) ?_
  refine s_gy (y_ptrEq rfl rfl Try.underlying125 (by kernel_rfl) rfl) rfl rfl rfl rfl rfl rfl ?_
  refine s_y (v := .bool true) (y_pickT (v := .bool true) rfl rfl rfl) rfl ?_
  refine s_y (v := .bool true) (y_assign rfl) rfl ?_
  refine wpL_nil ?_
  refine thenS_n ?_
  refine wpS_ret ?_
  refine fin1 (v := .bool true) (.inr rfl) (.nil) Try.results34 rfl ?_
  exact fun w' hs => ⟨rfl, hs⟩

end Go.Proofs.Ytldkjjnjdjfipaa
