/- ShapePublic, walked. -/
import Derived.Test.YtldkjjnjdjfipaaWTsk2
import Derived.Test.YtldkjjnjdjfipaaWTsk3
namespace Go.Proofs.Ytldkjjnjdjfipaa
open Go Go.RowKit
set_option linter.unusedVariables false
set_option linter.unusedSimpArgs false
set_option maxRecDepth 10000
set_option maxHeartbeats 1000000

theorem cb_bd {b c : Int} (h0 : 1 ≤ b) (h1 : b ≤ 8) (h2 : 1 ≤ c) (h3 : c ≤ 64) : 1 ≤ c * b ∧ c * b ≤ 512 := by
  have h4 : 0 < c * b := Int.mul_pos (by omega) (by omega)
  have h5 : c * b ≤ c * 8 := Int.mul_le_mul_of_nonneg_left h1 (by omega)
  omega
theorem cdv_cb {c b : Int} (hc : 1 ≤ c) (hb : 1 ≤ b) : cdv (c * b) b = c := by
  unfold cdv
  have e : c * b - 1 = (b - 1) + (c - 1) * b := by rw [Int.sub_mul]; omega
  rw [e, Int.add_mul_ediv_right _ _ (by omega), Int.ediv_eq_zero_of_lt (by omega) (by omega)]
  omega
theorem cnt_0 {p : Par} (h : ok p = false) : cnt p = 0 := by
  have := cnt_eq p
  rw [ofP_no h] at this
  have h2 : ((cnt p : Nat) : Int) = 0 := this.symm
  omega
theorem tasks_len (p : Par) : (tasksL p).length = cnt p := by simp [tasksL]
theorem same_all {p q : Par} (hp : ok p = true) (hq : ok q = true) (h : cdv q.n0 q.n2 = cdv p.n0 p.n2) (h1 : q.n1 = p.n1) : bk q = bk p ∧ sl q = sl p ∧ rh q = rh p ∧ ofP q = ofP p := by
  have e1 : bk q = bk p := by rw [bk_yes hp, bk_yes hq, h]
  have e2 : sl q = sl p := by rw [sl_yes hp, sl_yes hq, h, h1]
  have e3 : rh q = rh p := by unfold rh; rw [e2]
  exact ⟨e1, e2, e3, by rw [ofP_yes hp, ofP_yes hq, e1, e2, e3, h1]⟩
theorem same_cnt {p q : Par} (hp : ok p = true) (hq : ok q = true) (h : cdv q.n0 q.n2 = cdv p.n0 p.n2) (h1 : q.n1 = p.n1) : cnt q = cnt p := by
  obtain ⟨e1, e2, e3, e4⟩ := same_all hp hq h h1
  have a := cnt_eq p
  have b := cnt_eq q
  rw [e4, a] at b
  omega
theorem same_tasks {p q : Par} (hp : ok p = true) (hq : ok q = true) (h : cdv q.n0 q.n2 = cdv p.n0 p.n2) (h1 : q.n1 = p.n1) : tasksL q = tasksL p := by
  obtain ⟨e1, e2, e3, e4⟩ := same_all hp hq h h1
  unfold tasksL
  rw [same_cnt hp hq h h1]
  refine map_eq fun i _ => ?_
  unfold tkN tkAt
  rw [e1, e2, e4]

theorem public_law (p : Par) (sd : Int) (sd1 : -9223372036854775808 ≤ sd) (sd2 : sd < 9223372036854775808) (w : World) : Pure Try.prog 30 #[.agg #[.int .i64 (p.n0), .int .i64 (p.n1), .int .i64 (p.n2), .int .i64 (p.n3)], .int .i64 sd] w (.bool true) := by
  refine calls_S (n := 73) (σ0 := (upd (upd fr0 0 (.agg #[.int .i64 (p.n0), .int .i64 (p.n1), .int .i64 (p.n2), .int .i64 (p.n3)])) 1 (.int .i64 sd))) (D := []) (A := []) Try.func30 rfl Try.ntmps30 rfl (a2_fr _ _) (SH.start w) ?_
  have hcl := cnt_le p
  have htl := tasks_len (few p)
  refine wpS_seq ?_
  refine wpS_region ?_
  refine s_e rfl ?_
  refine e_box (v := .agg #[.int .i64 (p.n0), .int .i64 (p.n1), .int .i64 (p.n2), .int .i64 (p.n3)]) (l := [.int .i64 (p.n0), .int .i64 (p.n1), .int .i64 (p.n2), .int .i64 (p.n3)]) rfl rfl ?_
  intro b_1
  refine s_y (v := .bool false) (y_assign rfl) rfl ?_
  refine wpL_nil ?_
  refine thenS_n ?_
  refine wpS_seq ?_
  refine wpS_region ?_
  refine s_y (v := .agg #[.int .i64 (p.n0), .int .i64 (p.n1), .int .i64 (p.n2), .int .i64 (p.n3)]) (y_loadN (vs := [.int .i64 (p.n0), .int .i64 (p.n1), .int .i64 (p.n2), .int .i64 (p.n3)]) rfl Try.isAgg53 Try.sizeOf53 (ownN .h rfl)) rfl ?_
  refine s_y (v := .agg #[.int .i64 ((few p).n0), .int .i64 ((few p).n1), .int .i64 ((few p).n2), .int .i64 ((few p).n3)]) (y_call (args := #[.agg #[.int .i64 (p.n0), .int .i64 (p.n1), .int .i64 (p.n2), .int .i64 (p.n3)]]) (v := .agg #[.int .i64 ((few p).n0), .int .i64 ((few p).n1), .int .i64 ((few p).n2), .int .i64 ((few p).n3)]) Try.call62 (ev1 rfl) (fun w hs => few_c p w)) rfl ?_
  refine s_e0 ?_
  refine e_store (vs := [.int .i64 ((few p).n0), .int .i64 ((few p).n1), .int .i64 ((few p).n2), .int .i64 ((few p).n3)]) (l' := [.int .i64 ((few p).n0), .int .i64 ((few p).n1), .int .i64 ((few p).n2), .int .i64 ((few p).n3)]) rfl rfl rfl rfl Try.sizeOf53 .h (Nat.le_of_ble_eq_true rfl) rfl ?_
  refine wpL_nil ?_
  refine thenS_n ?_
  refine wpS_seq ?_
  refine wpS_seq ?_
  refine wpS_region ?_
  refine s_y (v := .agg #[.int .i64 ((few p).n0), .int .i64 ((few p).n1), .int .i64 ((few p).n2), .int .i64 ((few p).n3)]) (y_loadN (vs := [.int .i64 ((few p).n0), .int .i64 ((few p).n1), .int .i64 ((few p).n2), .int .i64 ((few p).n3)]) rfl Try.isAgg53 Try.sizeOf53 (ownN .h rfl)) rfl ?_
  refine s_y (v := .int .i64 (bad (few p))) (y_call (args := #[.agg #[.int .i64 ((few p).n0), .int .i64 ((few p).n1), .int .i64 ((few p).n2), .int .i64 ((few p).n3)]]) (v := .int .i64 (bad (few p))) Try.call101 (ev1 rfl) (fun w hs => rright_c (few p) w)) rfl ?_
  refine s_y (v := .bool (decide ((bad (few p) : Int) ≠ 0))) (y_neq (a := bad (few p)) (b := 0) rfl rfl rfl) rfl ?_
  refine wpL_nil ?_
  refine thenS_n ?_
  refine wpS_cond (t := decide ((bad (few p) : Int) ≠ 0)) rfl (fun b2 => ?_) (fun b2 => ?_)
  · -- decide ((bad (few p) : Int) ≠ 0) true
    have p2 := of_decide_eq_true b2
    have hno : ok (few p) = false := bad_no p2
    refine wpS_seq ?_
    refine wpS_region ?_
    refine s_y (v := .bool true) (y_call (args := #[]) (v := .bool true) Try.call64 ev0 (fun w hs => awake17_c w)) rfl ?_
    refine s_y (v := .bool true) (y_move rfl) rfl ?_
    refine s_gy (y_loadN (vs := [.int .i64 ((few p).n0), .int .i64 ((few p).n1), .int .i64 ((few p).n2), .int .i64 ((few p).n3)]) rfl Try.isAgg53 Try.sizeOf53 (ownN .h rfl)) rfl rfl rfl rfl rfl rfl ?_
    refine s_gy (y_call (args := #[.agg #[.int .i64 ((few p).n0), .int .i64 ((few p).n1), .int .i64 ((few p).n2), .int .i64 ((few p).n3)]]) (v := .int .i64 ((((cnt (few p)) : Nat) : Int))) Try.call65 (ev1 rfl) (fun w hs => count2_c (few p) w)) rfl rfl rfl rfl rfl rfl ?_
    refine s_gy (y_eql (a := (((cnt (few p)) : Nat) : Int)) (b := 0) (c := decide (((cnt (few p)) : Nat) = 0)) rfl rfl (decide_eq_decide.2 (by omega))) rfl rfl rfl rfl rfl rfl ?_
    refine s_y (v := .bool (decide (((cnt (few p)) : Nat) = 0))) (y_pickT (v := .bool (decide (((cnt (few p)) : Nat) = 0))) rfl rfl rfl) rfl ?_
    refine s_y (v := .bool (decide (((cnt (few p)) : Nat) = 0))) (y_assign rfl) rfl ?_
    refine wpL_nil ?_
    refine thenS_n ?_
    refine wpS_ret ?_
    refine thenS_r ?_
    refine fin1 (v := .bool (decide (((cnt (few p)) : Nat) = 0))) (.inr rfl) (.nil) Try.results30 rfl ?_
    exact fun w' hs => ⟨congrArg (fun b => Ending.returned (Value.bool b)) (show (decide (((cnt (few p)) : Nat) = 0)) = true from (decide_eq_true (cnt_0 hno))), hs⟩
  · -- decide ((bad (few p) : Int) ≠ 0) false
    have p2 := of_decide_eq_false b2
    have hbp : ok (few p) = true := bad_yes (Decidable.not_not.1 p2)
    obtain ⟨g0, g1, g2, g3, g4, g5, g6, g7, g8⟩ := ok_bd hbp
    refine wpS_skip ?_
    refine thenS_n ?_
    refine wpS_seq ?_
    refine wpS_region ?_
    refine s_y (v := .agg #[.int .i64 ((few p).n0), .int .i64 ((few p).n1), .int .i64 ((few p).n2), .int .i64 ((few p).n3)]) (y_loadN (vs := [.int .i64 ((few p).n0), .int .i64 ((few p).n1), .int .i64 ((few p).n2), .int .i64 ((few p).n3)]) rfl Try.isAgg53 Try.sizeOf53 (ownN .h rfl)) rfl ?_
    refine s_e rfl ?_
    refine e_alloc (l := [.int .i64 0, .int .i64 0, .int .i64 0, .int .i64 0]) Try.zeroValue53 rfl ?_
    intro b_3
    refine s_e0 ?_
    refine e_store (vs := [.int .i64 ((few p).n0), .int .i64 ((few p).n1), .int .i64 ((few p).n2), .int .i64 ((few p).n3)]) (l' := [.int .i64 ((few p).n0), .int .i64 ((few p).n1), .int .i64 ((few p).n2), .int .i64 ((few p).n3)]) rfl rfl rfl rfl Try.sizeOf53 .h (Nat.le_of_ble_eq_true rfl) rfl ?_
    refine wpL_nil ?_
    refine thenS_n ?_
    refine wpS_seq ?_
    refine wpS_region ?_
    refine s_y (v := .int .i64 sd) (y_move rfl) rfl ?_
    refine s_y (v := .int .u64 ((((u64of sd) : Nat) : Int))) (y_convI (a := sd) (c := (((u64of sd) : Nat) : Int)) rfl Try.underlying3 Try.underlying46 (u64of_wrap _)) rfl ?_
    refine s_y (v := .int .u64 (((((u64of sd) % 4) : Nat) : Int))) (y_rem (a := (((u64of sd) : Nat) : Int)) (b := 4) (c := ((((u64of sd) % 4) : Nat) : Int)) rfl rfl (by omega) (n_rem _ 4 (by omega))) rfl ?_
    refine s_y (v := .int .i64 (((((u64of sd) % 4) : Nat) : Int))) (y_convI (a := ((((u64of sd) % 4) : Nat) : Int)) (c := ((((u64of sd) % 4) : Nat) : Int)) rfl Try.underlying46 Try.underlying3 (wI rfl (by omega) (by omega))) rfl ?_
    refine s_y (v := .int .i64 ((((1 + ((u64of sd) % 4)) : Nat) : Int))) (y_add (a := 1) (b := ((((u64of sd) % 4) : Nat) : Int)) (c := (((1 + ((u64of sd) % 4)) : Nat) : Int)) rfl rfl (wI (by omega) (by omega) (by omega))) rfl ?_
    refine s_y (v := .pointer (some ⟨b_3, 3, none⟩)) (y_fieldAddr (o' := 3) rfl Try.underlying53 rfl Try.sizeOf3 (by decide) rfl) rfl ?_
    refine s_e0 ?_
    refine e_store (vs := [.int .i64 ((((1 + ((u64of sd) % 4)) : Nat) : Int))]) (l' := [.int .i64 ((few p).n0), .int .i64 ((few p).n1), .int .i64 ((few p).n2), .int .i64 ((((1 + ((u64of sd) % 4)) : Nat) : Int))]) rfl rfl rfl rfl Try.sizeOf3 .h (Nat.le_of_ble_eq_true rfl) rfl ?_
    refine wpL_nil ?_
    refine thenS_n ?_
    refine wpS_seq ?_
    refine wpS_anyL [cel b_1 53 [.int .i64 ((few p).n0), .int .i64 ((few p).n1), .int .i64 ((few p).n2), .int .i64 ((few p).n3)]] [] (by kernel_rfl) ?_
    refine anyS_take (i := 0) rfl (by kernel_rfl) (by kernel_rfl) (by kernel_rfl) (by kernel_rfl) (Yq.of (v := .pointer (some ⟨b_1, 0, none⟩)) (y_fieldAddr (o' := 0) rfl Try.underlying53 rfl Try.sizeOf3 (by decide) rfl) rfl) (.p (.t .h) .nil) ?_
    refine anyS_take (i := 1) rfl (by kernel_rfl) (by kernel_rfl) (by kernel_rfl) (by kernel_rfl) (Yq.of (v := .int .i64 ((few p).n0)) (y_load1 rfl Try.isAgg3 (own1 .h rfl)) rfl) (.p (.t .h) .nil) ?_
    refine anyS_take (i := 2) rfl (by kernel_rfl) (by kernel_rfl) (by kernel_rfl) (by kernel_rfl) (Yq.of (v := .pointer (some ⟨b_1, 2, none⟩)) (y_fieldAddr (o' := 2) rfl Try.underlying53 rfl Try.sizeOf3 (by decide) rfl) rfl) (.p (.t .h) .nil) ?_
    refine anyS_take (i := 3) rfl (by kernel_rfl) (by kernel_rfl) (by kernel_rfl) (by kernel_rfl) (Yq.of (v := .int .i64 ((few p).n2)) (y_load1 rfl Try.isAgg3 (own1 .h rfl)) rfl) (.p (.t .h) .nil) ?_
    refine anyS_take (i := 4) rfl (by kernel_rfl) (by kernel_rfl) (by kernel_rfl) (by kernel_rfl) (Yq.of (v := .int .i64 (((few p).n0) + ((few p).n2))) (y_add (a := (few p).n0) (b := (few p).n2) (c := ((few p).n0) + ((few p).n2)) rfl rfl (wI rfl (by omega) (by omega))) rfl) (.p (.t .h) .nil) ?_
    refine anyS_take (i := 5) rfl (by kernel_rfl) (by kernel_rfl) (by kernel_rfl) (by kernel_rfl) (Yq.of (v := .int .i64 ((((few p).n0) + ((few p).n2)) - 1)) (y_sub (a := ((few p).n0) + ((few p).n2)) (b := 1) (c := (((few p).n0) + ((few p).n2)) - 1) rfl rfl (wI rfl (by omega) (by omega))) rfl) (.p (.t .h) .nil) ?_
    refine anyS_take (i := 6) rfl (by kernel_rfl) (by kernel_rfl) (by kernel_rfl) (by kernel_rfl) (Yq.of (v := .pointer (some ⟨b_1, 2, none⟩)) (y_fieldAddr (o' := 2) rfl Try.underlying53 rfl Try.sizeOf3 (by decide) rfl) rfl) (.p (.t .h) .nil) ?_
    refine anyS_take (i := 7) rfl (by kernel_rfl) (by kernel_rfl) (by kernel_rfl) (by kernel_rfl) (Yq.of (v := .int .i64 ((few p).n2)) (y_load1 rfl Try.isAgg3 (own1 .h rfl)) rfl) (.p (.t .h) .nil) ?_
    have hc := cdv_bd (a := (few p).n0) (b := (few p).n2) (by omega) (by omega) (by omega)
    refine anyS_take (i := 8) rfl (by kernel_rfl) (by kernel_rfl) (by kernel_rfl) (by kernel_rfl) (Yq.of (v := .int .i64 (cdv (few p).n0 (few p).n2)) (y_quo (a := (((few p).n0) + ((few p).n2)) - 1) (b := (few p).n2) (c := cdv (few p).n0 (few p).n2) rfl rfl (by omega) (up_wrap (by omega) (by omega) (by omega) (by omega))) rfl) (.p (.t .h) .nil) ?_
    refine anyS_take (i := 9) rfl (by kernel_rfl) (by kernel_rfl) (by kernel_rfl) (by kernel_rfl) (Yq.of (v := .pointer (some ⟨b_1, 2, none⟩)) (y_fieldAddr (o' := 2) rfl Try.underlying53 rfl Try.sizeOf3 (by decide) rfl) rfl) (.p (.t .h) .nil) ?_
    refine anyS_take (i := 10) rfl (by kernel_rfl) (by kernel_rfl) (by kernel_rfl) (by kernel_rfl) (Yq.of (v := .int .i64 ((few p).n2)) (y_load1 rfl Try.isAgg3 (own1 .h rfl)) rfl) (.p (.t .h) .nil) ?_
    have hcm := cb_bd (b := (few p).n2) (c := cdv (few p).n0 (few p).n2) (by omega) (by omega) (by omega) (by omega)
    refine anyS_take (i := 11) rfl (by kernel_rfl) (by kernel_rfl) (by kernel_rfl) (by kernel_rfl) (Yq.of (v := .int .i64 (cdv (few p).n0 (few p).n2 * (few p).n2)) (y_mul (a := cdv (few p).n0 (few p).n2) (b := (few p).n2) (c := cdv (few p).n0 (few p).n2 * (few p).n2) rfl rfl (wI rfl (by omega) (by omega))) rfl) (.p (.t .h) .nil) ?_
    refine anyS_take (i := 12) rfl (by kernel_rfl) (by kernel_rfl) (by kernel_rfl) (by kernel_rfl) (Yq.of (v := .pointer (some ⟨b_3, 0, none⟩)) (y_fieldAddr (o' := 0) rfl Try.underlying53 rfl Try.sizeOf3 (by decide) rfl) rfl) (.p (.t .h) .nil) ?_
    refine anyS_all (rs := [13]) (by kernel_rfl) (by simp) ?_
    intro i hi; obtain rfl := List.mem_singleton.1 hi; clear hi
    refine opS_0 rfl rfl ?_
    refine e_store (vs := [.int .i64 (cdv (few p).n0 (few p).n2 * (few p).n2)]) (l' := [.int .i64 (cdv (few p).n0 (few p).n2 * (few p).n2), .int .i64 ((few p).n1), .int .i64 ((few p).n2), .int .i64 ((((1 + ((u64of sd) % 4)) : Nat) : Int))]) rfl rfl rfl rfl Try.sizeOf3 .h (Nat.le_of_ble_eq_true rfl) rfl ?_
    refine ⟨.inr (.p (.t .h) .nil), ?_⟩
    refine anyS_done (by kernel_rfl) ?_
    refine thenS_n ?_
    refine wpS_seq ?_
    refine wpS_seq ?_
    refine wpS_region ?_
    refine s_y (v := .agg #[.int .i64 (cdv (few p).n0 (few p).n2 * (few p).n2), .int .i64 ((few p).n1), .int .i64 ((few p).n2), .int .i64 ((((1 + ((u64of sd) % 4)) : Nat) : Int))]) (y_loadN (vs := [.int .i64 (cdv (few p).n0 (few p).n2 * (few p).n2), .int .i64 ((few p).n1), .int .i64 ((few p).n2), .int .i64 ((((1 + ((u64of sd) % 4)) : Nat) : Int))]) rfl Try.isAgg53 Try.sizeOf53 (ownN .h rfl)) rfl ?_
    refine s_y (v := .int .i64 (bad (Par.mk (cdv (few p).n0 (few p).n2 * (few p).n2) ((few p).n1) ((few p).n2) (((1 + ((u64of sd) % 4)) : Nat) : Int)))) (y_call (args := #[.agg #[.int .i64 (cdv (few p).n0 (few p).n2 * (few p).n2), .int .i64 ((few p).n1), .int .i64 ((few p).n2), .int .i64 ((((1 + ((u64of sd) % 4)) : Nat) : Int))]]) (v := .int .i64 (bad (Par.mk (cdv (few p).n0 (few p).n2 * (few p).n2) ((few p).n1) ((few p).n2) (((1 + ((u64of sd) % 4)) : Nat) : Int)))) Try.call101 (ev1 rfl) (fun w hs => rright_c (Par.mk (cdv (few p).n0 (few p).n2 * (few p).n2) ((few p).n1) ((few p).n2) (((1 + ((u64of sd) % 4)) : Nat) : Int)) w)) rfl ?_
    refine s_y (v := .bool (decide ((bad (Par.mk (cdv (few p).n0 (few p).n2 * (few p).n2) ((few p).n1) ((few p).n2) (((1 + ((u64of sd) % 4)) : Nat) : Int)) : Int) ≠ 0))) (y_neq (a := bad (Par.mk (cdv (few p).n0 (few p).n2 * (few p).n2) ((few p).n1) ((few p).n2) (((1 + ((u64of sd) % 4)) : Nat) : Int))) (b := 0) rfl rfl rfl) rfl ?_
    refine wpL_nil ?_
    refine thenS_n ?_
    refine wpS_cond (t := decide ((bad (Par.mk (cdv (few p).n0 (few p).n2 * (few p).n2) ((few p).n1) ((few p).n2) (((1 + ((u64of sd) % 4)) : Nat) : Int)) : Int) ≠ 0)) rfl (fun b4 => ?_) (fun b4 => ?_)
    · -- decide ((bad (Par.mk (cdv (few p).n0 (few p).n2 * (few p).n2) ((few p).n1) ((few p).n2) (((1 + ((u64of sd) % 4)) : Nat) : Int)) : Int) ≠ 0) true
      have p4 := of_decide_eq_true b4
      refine wpS_seq ?_
      refine wpS_region ?_
      refine s_y (v := .bool true) (y_call (args := #[]) (v := .bool true) Try.call64 ev0 (fun w hs => awake17_c w)) rfl ?_
      refine s_y (v := .bool true) (y_assign rfl) rfl ?_
      refine wpL_nil ?_
      refine thenS_n ?_
      refine wpS_ret ?_
      refine thenS_r ?_
      refine fin1 (v := .bool true) (.inr rfl) (.nil) Try.results30 rfl ?_
      exact fun w' hs => ⟨rfl, hs⟩
    · -- decide ((bad (Par.mk (cdv (few p).n0 (few p).n2 * (few p).n2) ((few p).n1) ((few p).n2) (((1 + ((u64of sd) % 4)) : Nat) : Int)) : Int) ≠ 0) false
      have p4 := of_decide_eq_false b4
      have hb2 : ok (Par.mk (cdv (few p).n0 (few p).n2 * (few p).n2) ((few p).n1) ((few p).n2) (((1 + ((u64of sd) % 4)) : Nat) : Int)) = true := bad_yes (Decidable.not_not.1 p4)
      have hsm := same_cnt (p := few p) (q := (Par.mk (cdv (few p).n0 (few p).n2 * (few p).n2) ((few p).n1) ((few p).n2) (((1 + ((u64of sd) % 4)) : Nat) : Int))) hbp hb2 (cdv_cb (by omega) (by omega)) rfl
      have htk := same_tasks (p := few p) (q := (Par.mk (cdv (few p).n0 (few p).n2 * (few p).n2) ((few p).n1) ((few p).n2) (((1 + ((u64of sd) % 4)) : Nat) : Int))) hbp hb2 (cdv_cb (by omega) (by omega)) rfl
      have htl2 := tasks_len (Par.mk (cdv (few p).n0 (few p).n2 * (few p).n2) ((few p).n1) ((few p).n2) (((1 + ((u64of sd) % 4)) : Nat) : Int))
      refine wpS_skip ?_
      refine thenS_n ?_
      refine wpS_seq ?_
      refine wpS_region ?_
      refine s_y (v := .agg #[.int .i64 ((few p).n0), .int .i64 ((few p).n1), .int .i64 ((few p).n2), .int .i64 ((few p).n3)]) (y_loadN (vs := [.int .i64 ((few p).n0), .int .i64 ((few p).n1), .int .i64 ((few p).n2), .int .i64 ((few p).n3)]) rfl Try.isAgg53 Try.sizeOf53 (ownN (.t .h) rfl)) rfl ?_
      refine s_e rfl ?_
      refine e_call (f := 96) (args := #[.agg #[.int .i64 ((few p).n0), .int .i64 ((few p).n1), .int .i64 ((few p).n2), .int .i64 ((few p).n3)]]) (X := Nat) (A := []) (M := [cel b_3 53 [.int .i64 (cdv (few p).n0 (few p).n2 * (few p).n2), .int .i64 ((few p).n1), .int .i64 ((few p).n2), .int .i64 ((((1 + ((u64of sd) % 4)) : Nat) : Int))], cel b_1 53 [.int .i64 ((few p).n0), .int .i64 ((few p).n1), .int .i64 ((few p).n2), .int .i64 ((few p).n3)]]) (V := fun x : Nat => .func (.func 182) #[] #[.pointer (some ⟨x, 0, none⟩)]) (A' := fun x : Nat => [cel x 53 [.int .i64 ((few p).n0), .int .i64 ((few p).n1), .int .i64 ((few p).n2), .int .i64 ((few p).n3)]]) (C := fun _ => True) Try.call96 (ev1 rfl) (.p .h (.p .h .nil)) (fun w hs => tasks_c (few p) w) ?_
      rintro b_5 -
      refine s_e rfl ?_
      refine e_call (f := 98) (args := #[.func (.func 182) #[] #[.pointer (some ⟨b_5, 0, none⟩)], .int .i64 2000]) (X := (Option Addr × Nat) × (Option Addr × Nat)) (A := []) (M := [cel b_5 53 [.int .i64 ((few p).n0), .int .i64 ((few p).n1), .int .i64 ((few p).n2), .int .i64 ((few p).n3)], cel b_3 53 [.int .i64 (cdv (few p).n0 (few p).n2 * (few p).n2), .int .i64 ((few p).n1), .int .i64 ((few p).n2), .int .i64 ((((1 + ((u64of sd) % 4)) : Nat) : Int))], cel b_1 53 [.int .i64 ((few p).n0), .int .i64 ((few p).n1), .int .i64 ((few p).n2), .int .i64 ((few p).n3)]]) (V := fun x => .tuple #[slV ((List.range (cnt (few p))).map fun k => ((k : Nat) : Int)) x.1, slV (tasksL (few p)) x.2, .bool true]) (A' := fun x => [slR intV 1 3 ((List.range (cnt (few p))).map fun k => ((k : Nat) : Int)) x.1, slR taskV 5 120 (tasksL (few p)) x.2]) (C := fun _ => True) Try.call98 (ev2 rfl rfl) (.p .h (.p .h (.p .h .nil))) (fun w hs => seq2tk_c b_5 (few p) 2000 w (celR .h w hs) (by omega) (by omega)) ?_
      rintro ⟨⟨a_6, c_7⟩, ⟨a_8, c_9⟩⟩ -
      refine s_y (v := .tuple #[.slice a_6 (((List.range (cnt (few p))).map fun k => ((k : Nat) : Int)).length) c_7, .slice a_8 ((tasksL (few p)).length) c_9, .bool true]) (y_move rfl) rfl ?_
      refine s_y (v := .slice a_6 (((List.range (cnt (few p))).map fun k => ((k : Nat) : Int)).length) c_7) (y_extract (v := .slice a_6 (((List.range (cnt (few p))).map fun k => ((k : Nat) : Int)).length) c_7) rfl rfl) rfl ?_
      refine s_y (v := .slice a_8 ((tasksL (few p)).length) c_9) (y_extract (v := .slice a_8 ((tasksL (few p)).length) c_9) rfl rfl) rfl ?_
      refine s_y (v := .bool true) (y_extract (v := .bool true) rfl rfl) rfl ?_
      refine s_y (v := .slice a_6 (((List.range (cnt (few p))).map fun k => ((k : Nat) : Int)).length) c_7) (y_assign rfl) rfl ?_
      refine s_y (v := .slice a_8 ((tasksL (few p)).length) c_9) (y_assign rfl) rfl ?_
      refine s_y (v := .bool true) (y_assign rfl) rfl ?_
      refine wpL_nil ?_
      refine thenS_n ?_
      refine wpS_seq ?_
      refine wpS_region ?_
      refine s_y (v := .agg #[.int .i64 (cdv (few p).n0 (few p).n2 * (few p).n2), .int .i64 ((few p).n1), .int .i64 ((few p).n2), .int .i64 ((((1 + ((u64of sd) % 4)) : Nat) : Int))]) (y_loadN (vs := [.int .i64 (cdv (few p).n0 (few p).n2 * (few p).n2), .int .i64 ((few p).n1), .int .i64 ((few p).n2), .int .i64 ((((1 + ((u64of sd) % 4)) : Nat) : Int))]) rfl Try.isAgg53 Try.sizeOf53 (ownN (.t (.t (.t .h))) rfl)) rfl ?_
      refine s_e rfl ?_
      refine e_call (f := 96) (args := #[.agg #[.int .i64 (cdv (few p).n0 (few p).n2 * (few p).n2), .int .i64 ((few p).n1), .int .i64 ((few p).n2), .int .i64 ((((1 + ((u64of sd) % 4)) : Nat) : Int))]]) (X := Nat) (A := []) (M := [osl a_6 c_7 (((List.range (cnt (few p))).map fun k => ((k : Nat) : Int)).length) 1 3 (((List.range (cnt (few p))).map fun k => ((k : Nat) : Int)).flatMap intV), osl a_8 c_9 ((tasksL (few p)).length) 5 120 ((tasksL (few p)).flatMap taskV), cel b_5 53 [.int .i64 ((few p).n0), .int .i64 ((few p).n1), .int .i64 ((few p).n2), .int .i64 ((few p).n3)], cel b_3 53 [.int .i64 (cdv (few p).n0 (few p).n2 * (few p).n2), .int .i64 ((few p).n1), .int .i64 ((few p).n2), .int .i64 ((((1 + ((u64of sd) % 4)) : Nat) : Int))], cel b_1 53 [.int .i64 ((few p).n0), .int .i64 ((few p).n1), .int .i64 ((few p).n2), .int .i64 ((few p).n3)]]) (V := fun x : Nat => .func (.func 182) #[] #[.pointer (some ⟨x, 0, none⟩)]) (A' := fun x : Nat => [cel x 53 [.int .i64 (cdv (few p).n0 (few p).n2 * (few p).n2), .int .i64 ((few p).n1), .int .i64 ((few p).n2), .int .i64 ((((1 + ((u64of sd) % 4)) : Nat) : Int))]]) (C := fun _ => True) Try.call96 (ev1 rfl) (.p .h (.p .h (.p .h (.p .h (.p .h .nil))))) (fun w hs => tasks_c (Par.mk (cdv (few p).n0 (few p).n2 * (few p).n2) ((few p).n1) ((few p).n2) (((1 + ((u64of sd) % 4)) : Nat) : Int)) w) ?_
      rintro b_12 -
      refine s_e rfl ?_
      refine e_call (f := 98) (args := #[.func (.func 182) #[] #[.pointer (some ⟨b_12, 0, none⟩)], .int .i64 2000]) (X := (Option Addr × Nat) × (Option Addr × Nat)) (A := []) (M := [cel b_12 53 [.int .i64 (cdv (few p).n0 (few p).n2 * (few p).n2), .int .i64 ((few p).n1), .int .i64 ((few p).n2), .int .i64 ((((1 + ((u64of sd) % 4)) : Nat) : Int))], osl a_6 c_7 (((List.range (cnt (few p))).map fun k => ((k : Nat) : Int)).length) 1 3 (((List.range (cnt (few p))).map fun k => ((k : Nat) : Int)).flatMap intV), osl a_8 c_9 ((tasksL (few p)).length) 5 120 ((tasksL (few p)).flatMap taskV), cel b_5 53 [.int .i64 ((few p).n0), .int .i64 ((few p).n1), .int .i64 ((few p).n2), .int .i64 ((few p).n3)], cel b_3 53 [.int .i64 (cdv (few p).n0 (few p).n2 * (few p).n2), .int .i64 ((few p).n1), .int .i64 ((few p).n2), .int .i64 ((((1 + ((u64of sd) % 4)) : Nat) : Int))], cel b_1 53 [.int .i64 ((few p).n0), .int .i64 ((few p).n1), .int .i64 ((few p).n2), .int .i64 ((few p).n3)]]) (V := fun x => .tuple #[slV ((List.range (cnt (Par.mk (cdv (few p).n0 (few p).n2 * (few p).n2) ((few p).n1) ((few p).n2) (((1 + ((u64of sd) % 4)) : Nat) : Int)))).map fun k => ((k : Nat) : Int)) x.1, slV (tasksL (Par.mk (cdv (few p).n0 (few p).n2 * (few p).n2) ((few p).n1) ((few p).n2) (((1 + ((u64of sd) % 4)) : Nat) : Int))) x.2, .bool true]) (A' := fun x => [slR intV 1 3 ((List.range (cnt (Par.mk (cdv (few p).n0 (few p).n2 * (few p).n2) ((few p).n1) ((few p).n2) (((1 + ((u64of sd) % 4)) : Nat) : Int)))).map fun k => ((k : Nat) : Int)) x.1, slR taskV 5 120 (tasksL (Par.mk (cdv (few p).n0 (few p).n2 * (few p).n2) ((few p).n1) ((few p).n2) (((1 + ((u64of sd) % 4)) : Nat) : Int))) x.2]) (C := fun _ => True) Try.call98 (ev2 rfl rfl) (.p .h (.p .h (.p .h (.p .h (.p .h (.p .h .nil)))))) (fun w hs => seq2tk_c b_12 (Par.mk (cdv (few p).n0 (few p).n2 * (few p).n2) ((few p).n1) ((few p).n2) (((1 + ((u64of sd) % 4)) : Nat) : Int)) 2000 w (celR .h w hs) (by omega) (by omega)) ?_
      rintro ⟨⟨a_13, c_14⟩, ⟨a_15, c_16⟩⟩ -
      refine s_y (v := .tuple #[.slice a_13 (((List.range (cnt (Par.mk (cdv (few p).n0 (few p).n2 * (few p).n2) ((few p).n1) ((few p).n2) (((1 + ((u64of sd) % 4)) : Nat) : Int)))).map fun k => ((k : Nat) : Int)).length) c_14, .slice a_15 ((tasksL (Par.mk (cdv (few p).n0 (few p).n2 * (few p).n2) ((few p).n1) ((few p).n2) (((1 + ((u64of sd) % 4)) : Nat) : Int))).length) c_16, .bool true]) (y_move rfl) rfl ?_
      refine s_y (v := .slice a_13 (((List.range (cnt (Par.mk (cdv (few p).n0 (few p).n2 * (few p).n2) ((few p).n1) ((few p).n2) (((1 + ((u64of sd) % 4)) : Nat) : Int)))).map fun k => ((k : Nat) : Int)).length) c_14) (y_extract (v := .slice a_13 (((List.range (cnt (Par.mk (cdv (few p).n0 (few p).n2 * (few p).n2) ((few p).n1) ((few p).n2) (((1 + ((u64of sd) % 4)) : Nat) : Int)))).map fun k => ((k : Nat) : Int)).length) c_14) rfl rfl) rfl ?_
      refine s_y (v := .slice a_15 ((tasksL (Par.mk (cdv (few p).n0 (few p).n2 * (few p).n2) ((few p).n1) ((few p).n2) (((1 + ((u64of sd) % 4)) : Nat) : Int))).length) c_16) (y_extract (v := .slice a_15 ((tasksL (Par.mk (cdv (few p).n0 (few p).n2 * (few p).n2) ((few p).n1) ((few p).n2) (((1 + ((u64of sd) % 4)) : Nat) : Int))).length) c_16) rfl rfl) rfl ?_
      refine s_y (v := .bool true) (y_extract (v := .bool true) rfl rfl) rfl ?_
      refine s_y (v := .slice a_13 (((List.range (cnt (Par.mk (cdv (few p).n0 (few p).n2 * (few p).n2) ((few p).n1) ((few p).n2) (((1 + ((u64of sd) % 4)) : Nat) : Int)))).map fun k => ((k : Nat) : Int)).length) c_14) (y_assign rfl) rfl ?_
      refine s_y (v := .slice a_15 ((tasksL (Par.mk (cdv (few p).n0 (few p).n2 * (few p).n2) ((few p).n1) ((few p).n2) (((1 + ((u64of sd) % 4)) : Nat) : Int))).length) c_16) (y_assign rfl) rfl ?_
      refine s_y (v := .bool true) (y_assign rfl) rfl ?_
      refine wpL_nil ?_
      refine thenS_n ?_
      refine wpS_seq ?_
      refine wpS_region ?_
      refine s_y (v := .bool true) (y_call (args := #[]) (v := .bool true) Try.call64 ev0 (fun w hs => awake17_c w)) rfl ?_
      refine s_y (v := .bool true) (y_move rfl) rfl ?_
      refine s_gy (y_move rfl) rfl rfl rfl rfl rfl rfl ?_
      refine s_y (v := .bool true) (y_pickT (v := .bool true) rfl rfl rfl) rfl ?_
      refine s_y (v := .bool true) (y_move rfl) rfl ?_
      refine s_gy (y_move rfl) rfl rfl rfl rfl rfl rfl ?_
      refine s_y (v := .bool true) (y_pickT (v := .bool true) rfl rfl rfl) rfl ?_
      refine s_y (v := .bool true) (y_move rfl) rfl ?_
      refine s_gy (y_move rfl) rfl rfl rfl rfl rfl rfl ?_
      refine s_gy (y_move rfl) rfl rfl rfl rfl rfl rfl ?_
      refine s_gy (y_call (args := #[.slice a_8 ((tasksL (few p)).length) c_9, .slice a_15 ((tasksL (Par.mk (cdv (few p).n0 (few p).n2 * (few p).n2) ((few p).n1) ((few p).n2) (((1 + ((u64of sd) % 4)) : Nat) : Int))).length) c_16]) (v := .bool (decide ((tasksL (few p)) = (tasksL (Par.mk (cdv (few p).n0 (few p).n2 * (few p).n2) ((few p).n1) ((few p).n2) (((1 + ((u64of sd) % 4)) : Nat) : Int)))))) Try.call99 (ev2 rfl rfl) (fun w hs => plainT_c a_8 a_15 ((tasksL (few p)).length) ((tasksL (Par.mk (cdv (few p).n0 (few p).n2 * (few p).n2) ((few p).n1) ((few p).n2) (((1 + ((u64of sd) % 4)) : Nat) : Int))).length) c_9 c_16 (tasksL (few p)) (tasksL (Par.mk (cdv (few p).n0 (few p).n2 * (few p).n2) ((few p).n1) ((few p).n2) (((1 + ((u64of sd) % 4)) : Nat) : Int))) w rfl (oslR (.t (.t (.t (.t .h)))) w hs) (by omega) rfl (oslR (.t .h) w hs) (by omega))) rfl rfl rfl rfl rfl rfl ?_
      refine s_y (v := .bool (decide ((tasksL (few p)) = (tasksL (Par.mk (cdv (few p).n0 (few p).n2 * (few p).n2) ((few p).n1) ((few p).n2) (((1 + ((u64of sd) % 4)) : Nat) : Int)))))) (y_pickT (v := .bool (decide ((tasksL (few p)) = (tasksL (Par.mk (cdv (few p).n0 (few p).n2 * (few p).n2) ((few p).n1) ((few p).n2) (((1 + ((u64of sd) % 4)) : Nat) : Int)))))) rfl rfl rfl) rfl ?_
      refine s_y (v := .bool (decide ((tasksL (few p)) = (tasksL (Par.mk (cdv (few p).n0 (few p).n2 * (few p).n2) ((few p).n1) ((few p).n2) (((1 + ((u64of sd) % 4)) : Nat) : Int)))))) (y_assign rfl) rfl ?_
      refine wpL_nil ?_
      refine thenS_n ?_
      refine wpS_ret ?_
      refine fin1 (v := .bool (decide ((tasksL (few p)) = (tasksL (Par.mk (cdv (few p).n0 (few p).n2 * (few p).n2) ((few p).n1) ((few p).n2) (((1 + ((u64of sd) % 4)) : Nat) : Int)))))) (.inr rfl) (.nil) Try.results30 rfl ?_
      exact fun w' hs => ⟨congrArg (fun b => Ending.returned (Value.bool b)) (show (decide ((tasksL (few p)) = (tasksL (Par.mk (cdv (few p).n0 (few p).n2 * (few p).n2) ((few p).n1) ((few p).n2) (((1 + ((u64of sd) % 4)) : Nat) : Int))))) = true from (decide_eq_true htk.symm)), hs⟩

end Go.Proofs.Ytldkjjnjdjfipaa
