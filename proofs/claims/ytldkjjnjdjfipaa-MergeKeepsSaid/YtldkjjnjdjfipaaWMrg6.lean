/- the merge layer is awake; walked. -/
import Derived.Test.YtldkjjnjdjfipaaWMrg5
namespace Go.Proofs.Ytldkjjnjdjfipaa
open Go Go.RowKit
set_option linter.unusedVariables false
set_option linter.unusedSimpArgs false
set_option maxRecDepth 10000

theorem awake14_eq : mgd true [(Rec.mk false 3 0 0)] [(Rec.mk false 1 0 0)] = [(Rec.mk false 1 0 0), (Rec.mk false 3 0 0)] := by
  unfold mgd msort
  rw [srows_next (by decide), srow_next (by decide), if_pos rfl, srow_end (by decide), srows_next (by decide), srow_next (by decide), if_neg (by decide), srow_end (by decide), srows_done (.inl (by decide))]
  decide

theorem awake14_c (w : World) : Pure Try.prog 72 #[] w (.bool true) := by
  refine calls_S (n := 33) (σ0 := fr0) (D := []) (A := []) Try.func72 rfl Try.ntmps72 rfl (a0_fr) (SH.start w) ?_
  refine wpS_seq ?_
  refine wpS_region ?_
  refine s_y (v := .bool false) (y_assign rfl) rfl ?_
  refine wpL_nil ?_
  refine thenS_n ?_
  refine wpS_seq ?_
  refine wpS_region ?_
  refine s_y (v := .agg #[.bool false, .int .i64 3, .int .i64 0, .int .i64 0]) (y_buildL (m := [(1, .int .i64 3)]) (vs := #[.bool false, .int .i64 3, .int .i64 0, .int .i64 0]) (evc rfl evn) (fun w => by kernel_rfl)) rfl ?_
  refine s_e rfl ?_
  refine e_bsliceL (e := 23) (m := [(0, .agg #[.bool false, .int .i64 3, .int .i64 0, .int .i64 0])]) (l := [.bool false, .int .i64 3, .int .i64 0, .int .i64 0]) (evc rfl evn) (fun w => by kernel_rfl) ?_
  intro b_1
  refine s_y (v := .agg #[.bool false, .int .i64 1, .int .i64 0, .int .i64 0]) (y_buildL (m := [(1, .int .i64 1)]) (vs := #[.bool false, .int .i64 1, .int .i64 0, .int .i64 0]) (evc rfl evn) (fun w => by kernel_rfl)) rfl ?_
  refine s_e rfl ?_
  refine e_bsliceL (e := 23) (m := [(0, .agg #[.bool false, .int .i64 1, .int .i64 0, .int .i64 0])]) (l := [.bool false, .int .i64 1, .int .i64 0, .int .i64 0]) (evc rfl evn) (fun w => by kernel_rfl) ?_
  intro b_2
  refine s_e rfl ?_
  refine e_call (f := 73) (args := #[.slice (some ⟨b_1, 0, none⟩) 1 1, .slice (some ⟨b_2, 0, none⟩) 1 1, .bool true]) (X := Option Addr × Nat) (A := []) (M := [cel b_2 23 [.bool false, .int .i64 1, .int .i64 0, .int .i64 0], cel b_1 23 [.bool false, .int .i64 3, .int .i64 0, .int .i64 0]]) (V := fun x : Option Addr × Nat => .tuple #[.slice x.1 1 1, .slice (subA x.1 x.2 1 4) ((mgd true ([(Rec.mk false 3 0 0)]) ([(Rec.mk false 1 0 0)])).length - 1) (x.2 - 1)]) (A' := fun x => [slR recV 4 23 (mgd true ([(Rec.mk false 3 0 0)]) ([(Rec.mk false 1 0 0)])) x]) (C := fun x => (mgd true ([(Rec.mk false 3 0 0)]) ([(Rec.mk false 1 0 0)])).length ≤ x.2) Try.call73 (ev3 rfl rfl rfl) (.p .h (.p .h .nil)) (fun w hs => split_c (some ⟨b_1, 0, none⟩) (some ⟨b_2, 0, none⟩) 1 1 1 1 ([(Rec.mk false 3 0 0)]) ([(Rec.mk false 1 0 0)]) true w rfl rfl (celR (.t .h) w hs) (celR .h w hs) (by omega) (by omega)) ?_
  rintro ⟨a_3, c_4⟩ hc5; replace hc5 : (mgd true ([(Rec.mk false 3 0 0)]) ([(Rec.mk false 1 0 0)])).length ≤ c_4 := hc5
  have hlhc5 : (mgd true ([(Rec.mk false 3 0 0)]) ([(Rec.mk false 1 0 0)])).length = ([(Rec.mk false 3 0 0)]).length + ([(Rec.mk false 1 0 0)]).length := mgd_len _ _ _
  try simp only [List.length_cons, List.length_nil] at hlhc5
  refine s_y (v := .tuple #[.slice a_3 1 1, .slice (subA a_3 c_4 1 4) ((mgd true ([(Rec.mk false 3 0 0)]) ([(Rec.mk false 1 0 0)])).length - 1) (c_4 - 1)]) (y_move rfl) rfl ?_
  refine s_y (v := .slice a_3 1 1) (y_extract (v := .slice a_3 1 1) rfl rfl) rfl ?_
  refine s_y (v := .slice (subA a_3 c_4 1 4) ((mgd true ([(Rec.mk false 3 0 0)]) ([(Rec.mk false 1 0 0)])).length - 1) (c_4 - 1)) (y_extract (v := .slice (subA a_3 c_4 1 4) ((mgd true ([(Rec.mk false 3 0 0)]) ([(Rec.mk false 1 0 0)])).length - 1) (c_4 - 1)) rfl rfl) rfl ?_
  refine s_y (v := .slice a_3 1 1) (y_assign rfl) rfl ?_
  refine s_y (v := .slice (subA a_3 c_4 1 4) ((mgd true ([(Rec.mk false 3 0 0)]) ([(Rec.mk false 1 0 0)])).length - 1) (c_4 - 1)) (y_assign rfl) rfl ?_
  refine wpL_nil ?_
  refine thenS_n ?_
  refine wpS_seq ?_
  refine wpS_region ?_
  refine s_y (v := .slice a_3 1 1) (y_move rfl) rfl ?_
  refine s_y (v := .int .i64 1) (y_len (ty' := 0) (at_ := #[]) rfl Try.underlying69) rfl ?_
  refine s_y (v := .bool true) (y_eql (a := 1) (b := 1) rfl rfl (by decide)) rfl ?_
  refine s_y (v := .bool true) (y_move rfl) rfl ?_
  refine s_gy (y_move rfl) rfl rfl rfl rfl rfl rfl ?_
  refine s_gy (y_len (ty' := 0) (at_ := #[]) rfl Try.underlying69) rfl rfl rfl rfl rfl rfl ?_
  refine s_gy (y_eql (a := (((mgd true ([(Rec.mk false 3 0 0)]) ([(Rec.mk false 1 0 0)])).length - 1 : Nat) : Int)) (b := 1) (c := decide (((mgd true ([(Rec.mk false 3 0 0)]) ([(Rec.mk false 1 0 0)])).length - 1 : Nat) = 1)) rfl rfl (by simp only [decide_eq_decide]; omega)) rfl rfl rfl rfl rfl rfl ?_
  refine s_y (v := .bool (decide (((mgd true ([(Rec.mk false 3 0 0)]) ([(Rec.mk false 1 0 0)])).length - 1 : Nat) = 1))) (y_pickT (v := .bool (decide (((mgd true ([(Rec.mk false 3 0 0)]) ([(Rec.mk false 1 0 0)])).length - 1 : Nat) = 1))) rfl rfl rfl) rfl ?_
  refine s_y (v := .bool (decide (((mgd true ([(Rec.mk false 3 0 0)]) ([(Rec.mk false 1 0 0)])).length - 1 : Nat) = 1))) (y_move rfl) rfl ?_
  refine s_gy (y_move rfl) rfl rfl rfl rfl (b' := decide (((mgd true ([(Rec.mk false 3 0 0)]) ([(Rec.mk false 1 0 0)])).length - 1 : Nat) = 1)) rfl (by first | (rw [awake14_eq]; done) | (rw [awake14_eq]; decide)) ?_
  refine s_gy (y_idx (o := 0 * 4) rfl rfl Try.underlying69 Try.sizeOf23 (rdsT recV_len 1 (oslR .h)) ((fl_len recV_len _).trans (by first | omega | (simp only [List.length_set, List.length_take, List.length_drop]; done) | (simp only [List.length_set, List.length_take, List.length_drop]; omega))) (by decide) (by omega) (by omega) (by omega)) rfl rfl rfl rfl (b' := decide (((mgd true ([(Rec.mk false 3 0 0)]) ([(Rec.mk false 1 0 0)])).length - 1 : Nat) = 1)) rfl (by first | (rw [awake14_eq]; done) | (rw [awake14_eq]; decide)) ?_
  refine s_gy (y_fieldAddr (o' := aO a_3 + 0 * 4 + 1) rfl Try.underlying23 rfl Try.sizeOf2 (by decide) rfl) rfl rfl rfl rfl (b' := decide (((mgd true ([(Rec.mk false 3 0 0)]) ([(Rec.mk false 1 0 0)])).length - 1 : Nat) = 1)) rfl (by first | (rw [awake14_eq]; done) | (rw [awake14_eq]; decide)) ?_
  refine s_gy (y_load1 (v := .int .i64 (((((mgd true ([(Rec.mk false 3 0 0)]) ([(Rec.mk false 1 0 0)])).take 1).getD 0 default).key).toInt)) rfl Try.isAgg2 (rd1 (k := 0 * 4 + 1) (rdsT recV_len 1 (oslR .h)) (fl_get1 (f := 1) recV_len ((mgd true ([(Rec.mk false 3 0 0)]) ([(Rec.mk false 1 0 0)])).take 1) 0 (by first | omega | (simp only [List.length_set, List.length_take, List.length_drop]; done) | (simp only [List.length_set, List.length_take, List.length_drop]; omega)) rfl))) rfl rfl rfl rfl (b' := decide (((mgd true ([(Rec.mk false 3 0 0)]) ([(Rec.mk false 1 0 0)])).length - 1 : Nat) = 1)) rfl (by first | (rw [awake14_eq]; done) | (rw [awake14_eq]; decide)) ?_
  refine s_gy (y_eql (a := ((((mgd true ([(Rec.mk false 3 0 0)]) ([(Rec.mk false 1 0 0)])).take 1).getD 0 default).key).toInt) (b := 1) (c := decide (((((mgd true ([(Rec.mk false 3 0 0)]) ([(Rec.mk false 1 0 0)])).take 1).getD 0 default).key) = 1)) rfl rfl (i_eqlL _ 1 (by decide))) rfl rfl rfl rfl (b' := decide (((mgd true ([(Rec.mk false 3 0 0)]) ([(Rec.mk false 1 0 0)])).length - 1 : Nat) = 1)) rfl (by first | (rw [awake14_eq]; done) | (rw [awake14_eq]; decide)) ?_
  refine s_y (v := .bool (decide (((((mgd true ([(Rec.mk false 3 0 0)]) ([(Rec.mk false 1 0 0)])).take 1).getD 0 default).key) = 1))) (y_pickT (b := decide (((mgd true ([(Rec.mk false 3 0 0)]) ([(Rec.mk false 1 0 0)])).length - 1 : Nat) = 1)) (v := .bool (decide (((((mgd true ([(Rec.mk false 3 0 0)]) ([(Rec.mk false 1 0 0)])).take 1).getD 0 default).key) = 1))) rfl (by first | (rw [awake14_eq]; done) | (rw [awake14_eq]; decide)) rfl) rfl ?_
  refine s_y (v := .bool (decide (((((mgd true ([(Rec.mk false 3 0 0)]) ([(Rec.mk false 1 0 0)])).take 1).getD 0 default).key) = 1))) (y_move rfl) rfl ?_
  refine s_gy (y_move rfl) rfl rfl rfl rfl (b' := decide (((((mgd true ([(Rec.mk false 3 0 0)]) ([(Rec.mk false 1 0 0)])).take 1).getD 0 default).key) = 1)) rfl (by first | (rw [awake14_eq]; done) | (rw [awake14_eq]; decide)) ?_
  refine s_gy (y_idx (o := 0 * 4) rfl rfl Try.underlying69 Try.sizeOf23 (rdsD recV_len 1 hc5 (oslR .h)) ((fl_len recV_len _).trans (by first | omega | (simp only [List.length_set, List.length_take, List.length_drop]; done) | (simp only [List.length_set, List.length_take, List.length_drop]; omega))) (by decide) (by omega) (by omega) (by omega)) rfl rfl rfl rfl (b' := decide (((((mgd true ([(Rec.mk false 3 0 0)]) ([(Rec.mk false 1 0 0)])).take 1).getD 0 default).key) = 1)) rfl (by first | (rw [awake14_eq]; done) | (rw [awake14_eq]; decide)) ?_
  refine s_gy (y_fieldAddr (o' := aO (subA a_3 c_4 1 4) + 0 * 4 + 1) rfl Try.underlying23 rfl Try.sizeOf2 (by decide) rfl) rfl rfl rfl rfl (b' := decide (((((mgd true ([(Rec.mk false 3 0 0)]) ([(Rec.mk false 1 0 0)])).take 1).getD 0 default).key) = 1)) rfl (by first | (rw [awake14_eq]; done) | (rw [awake14_eq]; decide)) ?_
  refine s_gy (y_load1 (v := .int .i64 (((((mgd true ([(Rec.mk false 3 0 0)]) ([(Rec.mk false 1 0 0)])).drop 1).getD 0 default).key).toInt)) rfl Try.isAgg2 (rd1 (k := 0 * 4 + 1) (rdsD recV_len 1 hc5 (oslR .h)) (fl_get1 (f := 1) recV_len ((mgd true ([(Rec.mk false 3 0 0)]) ([(Rec.mk false 1 0 0)])).drop 1) 0 (by first | omega | (simp only [List.length_set, List.length_take, List.length_drop]; done) | (simp only [List.length_set, List.length_take, List.length_drop]; omega)) rfl))) rfl rfl rfl rfl (b' := decide (((((mgd true ([(Rec.mk false 3 0 0)]) ([(Rec.mk false 1 0 0)])).take 1).getD 0 default).key) = 1)) rfl (by first | (rw [awake14_eq]; done) | (rw [awake14_eq]; decide)) ?_
  refine s_gy (y_eql (a := ((((mgd true ([(Rec.mk false 3 0 0)]) ([(Rec.mk false 1 0 0)])).drop 1).getD 0 default).key).toInt) (b := 3) (c := decide (((((mgd true ([(Rec.mk false 3 0 0)]) ([(Rec.mk false 1 0 0)])).drop 1).getD 0 default).key) = 3)) rfl rfl (i_eqlL _ 3 (by decide))) rfl rfl rfl rfl (b' := decide (((((mgd true ([(Rec.mk false 3 0 0)]) ([(Rec.mk false 1 0 0)])).take 1).getD 0 default).key) = 1)) rfl (by first | (rw [awake14_eq]; done) | (rw [awake14_eq]; decide)) ?_
  refine s_y (v := .bool (decide (((((mgd true ([(Rec.mk false 3 0 0)]) ([(Rec.mk false 1 0 0)])).drop 1).getD 0 default).key) = 3))) (y_pickT (b := decide (((((mgd true ([(Rec.mk false 3 0 0)]) ([(Rec.mk false 1 0 0)])).take 1).getD 0 default).key) = 1)) (v := .bool (decide (((((mgd true ([(Rec.mk false 3 0 0)]) ([(Rec.mk false 1 0 0)])).drop 1).getD 0 default).key) = 3))) rfl (by first | (rw [awake14_eq]; done) | (rw [awake14_eq]; decide)) rfl) rfl ?_
  refine s_y (v := .bool (decide (((((mgd true ([(Rec.mk false 3 0 0)]) ([(Rec.mk false 1 0 0)])).drop 1).getD 0 default).key) = 3))) (y_assign rfl) rfl ?_
  refine wpL_nil ?_
  refine thenS_n ?_
  refine wpS_ret ?_
  refine fin1 (v := .bool (decide (((((mgd true ([(Rec.mk false 3 0 0)]) ([(Rec.mk false 1 0 0)])).drop 1).getD 0 default).key) = 3))) (.inr rfl) (.nil) Try.results72 rfl ?_
  exact fun w' hs => ⟨congrArg (fun b => Ending.returned (Value.bool b)) (show (decide (((((mgd true ([(Rec.mk false 3 0 0)]) ([(Rec.mk false 1 0 0)])).drop 1).getD 0 default).key) = 3)) = true from (by first | (rw [awake14_eq]; done) | (rw [awake14_eq]; decide))), hs⟩

end Go.Proofs.Ytldkjjnjdjfipaa
