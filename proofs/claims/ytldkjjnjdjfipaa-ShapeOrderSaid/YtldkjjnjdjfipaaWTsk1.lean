/- shape.Task and shape.Tasks, walked. -/
import Derived.Test.YtldkjjnjdjfipaaWLaw17c
import Derived.Test.YtldkjjnjdjfipaaP17b
import Derived.Test.YtldkjjnjdjfipaaWNetI
import Derived.Test.YtldkjjnjdjfipaaRf2
namespace Go.Proofs.Ytldkjjnjdjfipaa
open Go Go.RowKit
set_option linter.unusedVariables false
set_option linter.unusedSimpArgs false
set_option maxRecDepth 10000
set_option maxHeartbeats 1000000

theorem far_pos {p : Par} (h : ok p = true) {r : Nat} (hr : r < rnd ((sl p : Nat) : Int)) : 0 < far ((sl p : Nat) : Int) ((r : Nat) : Int) := by
  have hJ := padJ (p.n1 * cdv p.n0 p.n2 + 1)
  rw [sl_yes h] at hr ⊢
  unfold pad at hr ⊢
  rw [farK hJ hr]
  exact Nat.two_pow_pos _
theorem sl_half {p : Par} (h : ok p = true) : 0 < sl p / 2 := by
  have h1 := nb_sl p
  have h2 := ok_bd h
  have h3 := ok_cdv h
  have h4 := nb_bd (a := p.n1) (c := cdv p.n0 p.n2) (by omega) (by omega) (by omega) (by omega)
  have h5 := pd4 (p.n1 * cdv p.n0 p.n2 + 1)
  rw [← sl_yes h] at h5
  have h6 : p.n1 * cdv p.n0 p.n2 < 32 := h2.2.2.2.2.2.2.2.2
  omega
theorem far_pl {p : Par} (h : ok p = true) {j : Nat} (hj : j < rh p) : 0 < far ((sl p : Nat) : Int) ((j / (sl p / 2) : Nat) : Int) :=
  far_pos h (Nat.div_lt_of_lt_mul (by unfold rh at hj; rw [Nat.mul_comm]; exact hj))
theorem ok_of {p : Par} {i : Int} (h : 0 ≤ i) (h9 : ¬ (ofP p).q9 ≤ i) : ok p = true := by
  cases h1 : ok p
  · rw [ofP_no h1] at h9
    exact absurd h h9
  · rfl
theorem of2_c (p : Par) (w : World) : Pure Try.prog 160 #[.agg #[.int .i64 (p.n0), .int .i64 (p.n1), .int .i64 (p.n2), .int .i64 (p.n3)]] w (.agg #[.int .i64 ((ofP p).q0), .int .i64 (bk p), .int .i64 ((((sl p) : Nat) : Int)), .int .i64 ((((rnd ((sl p : Nat) : Int)) : Nat) : Int)), .int .i64 ((((sl p / 2) : Nat) : Int)), .int .i64 (bk p), .int .i64 ((ofP p).q6), .int .i64 ((ofP p).q7), .int .i64 ((ofP p).q8), .int .i64 ((ofP p).q9)]) := by
  have h := of_c p w
  rw [ofP_1 p, ofP_2 p, ofP_3 p, ofP_4 p, ofP_5 p] at h
  exact h
theorem count2_c (p : Par) (w : World) : Pure Try.prog 65 #[.agg #[.int .i64 (p.n0), .int .i64 (p.n1), .int .i64 (p.n2), .int .i64 (p.n3)]] w (.int .i64 ((cnt p : Nat) : Int)) := by
  have h := count_c p w
  rw [cnt_eq p] at h
  exact h
theorem cnt_big (p : Par) : cnt p ≤ 10000000 := by
  have h1 := bk_bd p
  have h2 := rh_bd p
  have h3 := sl_le p
  unfold cnt
  omega

theorem pair_c (x0 x1 x3 x5 x6 x7 x8 x9 : Int) (sw : Nat) (k j : Int) (hh : 0 < sw / 2) (hf : 0 < far ((sw : Nat) : Int) ((j.toNat / (sw / 2) : Nat) : Int)) (hsw : sw ≤ 65536) (hj0 : 0 ≤ j) (hj : j < 1000000000) (w : World) : Pure Try.prog 200 #[.agg #[.int .i64 x0, .int .i64 x1, .int .i64 (((sw : Nat) : Int)), .int .i64 x3, .int .i64 ((((sw / 2) : Nat) : Int)), .int .i64 x5, .int .i64 x6, .int .i64 x7, .int .i64 x8, .int .i64 x9], .int .i64 k, .int .i64 j] w (.agg #[.int .i64 ((prT sw k j.toNat).t0), .int .i64 ((prT sw k j.toNat).t1), .int .i64 ((prT sw k j.toNat).t2), .int .i64 ((prT sw k j.toNat).t3), .bool ((prT sw k j.toNat).t4)]) := by
  refine calls_S (n := 46) (σ0 := (upd (upd (upd fr0 0 (.agg #[.int .i64 x0, .int .i64 x1, .int .i64 (((sw : Nat) : Int)), .int .i64 x3, .int .i64 ((((sw / 2) : Nat) : Int)), .int .i64 x5, .int .i64 x6, .int .i64 x7, .int .i64 x8, .int .i64 x9])) 1 (.int .i64 k)) 2 (.int .i64 j))) (D := []) (A := []) Try.func200 rfl Try.ntmps200 rfl (a3_fr _ _ _) (SH.start w) ?_
  have hr := Nat.div_le_self j.toNat (sw / 2)
  have hr0 : (0 : Int) ≤ ((j.toNat / (sw / 2) : Nat) : Int) := Int.natCast_nonneg _
  have hm := Nat.mod_lt j.toNat hh
  have hd := Nat.div_le_self (j.toNat % (sw / 2)) (far ((sw : Nat) : Int) ((j.toNat / (sw / 2) : Nat) : Int))
  have hm2 := Nat.mod_lt (j.toNat % (sw / 2)) hf
  have hfl := far_le ((sw : Nat) : Int) ((j.toNat / (sw / 2) : Nat) : Int)
  have hpa : prA sw j.toNat = j.toNat % (sw / 2) / far ((sw : Nat) : Int) ((j.toNat / (sw / 2) : Nat) : Int) * far ((sw : Nat) : Int) ((j.toNat / (sw / 2) : Nat) : Int) * 2 + j.toNat % (sw / 2) % far ((sw : Nat) : Int) ((j.toNat / (sw / 2) : Nat) : Int) := rfl
  refine wpS_seq ?_
  refine wpS_region ?_
  refine s_e rfl ?_
  refine e_box (v := .agg #[.int .i64 x0, .int .i64 x1, .int .i64 (((sw : Nat) : Int)), .int .i64 x3, .int .i64 ((((sw / 2) : Nat) : Int)), .int .i64 x5, .int .i64 x6, .int .i64 x7, .int .i64 x8, .int .i64 x9]) (l := [.int .i64 x0, .int .i64 x1, .int .i64 (((sw : Nat) : Int)), .int .i64 x3, .int .i64 ((((sw / 2) : Nat) : Int)), .int .i64 x5, .int .i64 x6, .int .i64 x7, .int .i64 x8, .int .i64 x9]) rfl rfl ?_
  intro b_1
  refine s_e rfl ?_
  refine e_alloc (l := [.int .i64 0, .int .i64 0, .int .i64 0, .int .i64 0, .bool false]) Try.zeroValue120 rfl ?_
  intro b_2
  refine wpL_nil ?_
  refine thenS_n ?_
  refine wpS_seq ?_
  refine wpS_region ?_
  refine s_y (v := .int .i64 j) (y_move rfl) rfl ?_
  refine s_y (v := .pointer (some ⟨b_1, 4, none⟩)) (y_fieldAddr (o' := 4) rfl Try.underlying184 rfl Try.sizeOf3 (by decide) rfl) rfl ?_
  refine s_y (v := .int .i64 ((((sw / 2) : Nat) : Int))) (y_load1 rfl Try.isAgg3 (own1 (.t .h) rfl)) rfl ?_
  refine s_y (v := .int .i64 (((((j).toNat / (sw / 2)) : Nat) : Int))) (y_quo (a := j) (b := (((sw / 2) : Nat) : Int)) (c := ((((j).toNat / (sw / 2)) : Nat) : Int)) rfl rfl (by omega) (zq_quo (by omega) (by omega))) rfl ?_
  refine s_y (v := .int .i64 (((((j).toNat / (sw / 2)) : Nat) : Int))) (y_assign rfl) rfl ?_
  refine wpL_nil ?_
  refine thenS_n ?_
  refine wpS_seq ?_
  refine wpS_lex (by kernel_rfl) (by kernel_rfl) ?_
  refine x_y (v := .pointer (some ⟨b_1, 2, none⟩)) (y_fieldAddr (o' := 2) rfl Try.underlying184 rfl Try.sizeOf3 (by decide) rfl) rfl ?_
  refine x_y (v := .int .i64 (((sw : Nat) : Int))) (y_load1 rfl Try.isAgg3 (own1 (.t .h) rfl)) rfl ?_
  refine x_y (v := .int .i64 (((((j).toNat / (sw / 2)) : Nat) : Int))) (y_move rfl) rfl ?_
  refine x_y (v := .int .i64 ((((far (((sw : Nat) : Int)) (((((j).toNat / (sw / 2)) : Nat) : Int))) : Nat) : Int))) (y_call (args := #[.int .i64 (((sw : Nat) : Int)), .int .i64 (((((j).toNat / (sw / 2)) : Nat) : Int))]) (v := .int .i64 ((((far (((sw : Nat) : Int)) (((((j).toNat / (sw / 2)) : Nat) : Int))) : Nat) : Int))) Try.call153 (ev2 rfl rfl) (fun w hs => far_c (((sw : Nat) : Int)) (((((j).toNat / (sw / 2)) : Nat) : Int)) (by omega) (by omega) (by omega) (by omega) w)) rfl ?_
  refine x_y (v := .int .i64 j) (y_move rfl) rfl ?_
  refine x_y (v := .pointer (some ⟨b_1, 4, none⟩)) (y_fieldAddr (o' := 4) rfl Try.underlying184 rfl Try.sizeOf3 (by decide) rfl) rfl ?_
  refine x_y (v := .int .i64 ((((sw / 2) : Nat) : Int))) (y_load1 rfl Try.isAgg3 (own1 (.t .h) rfl)) rfl ?_
  refine x_y (v := .int .i64 (((((j).toNat % (sw / 2)) : Nat) : Int))) (y_rem (a := j) (b := (((sw / 2) : Nat) : Int)) (c := ((((j).toNat % (sw / 2)) : Nat) : Int)) rfl rfl (by omega) (zq_rem (by omega) (by omega))) rfl ?_
  refine x_y (v := .int .i64 ((((far (((sw : Nat) : Int)) (((((j).toNat / (sw / 2)) : Nat) : Int))) : Nat) : Int))) (y_assign rfl) rfl ?_
  refine x_y (v := .int .i64 (((((j).toNat % (sw / 2)) : Nat) : Int))) (y_assign rfl) rfl ?_
  refine x_nil ?_
  refine thenS_n ?_
  refine wpS_seq ?_
  refine wpS_lex (by kernel_rfl) (by kernel_rfl) ?_
  refine x_y (v := .int .i64 (((((j).toNat % (sw / 2)) : Nat) : Int))) (y_move rfl) rfl ?_
  refine x_y (v := .int .i64 ((((far (((sw : Nat) : Int)) (((((j).toNat / (sw / 2)) : Nat) : Int))) : Nat) : Int))) (y_move rfl) rfl ?_
  refine x_y (v := .int .i64 ((((((j).toNat % (sw / 2)) / (far (((sw : Nat) : Int)) (((((j).toNat / (sw / 2)) : Nat) : Int)))) : Nat) : Int))) (y_quo (a := ((((j).toNat % (sw / 2)) : Nat) : Int)) (b := (((far (((sw : Nat) : Int)) (((((j).toNat / (sw / 2)) : Nat) : Int))) : Nat) : Int)) (c := (((((j).toNat % (sw / 2)) / (far (((sw : Nat) : Int)) (((((j).toNat / (sw / 2)) : Nat) : Int)))) : Nat) : Int)) rfl rfl (by omega) (n_quo _ (far (((sw : Nat) : Int)) (((((j).toNat / (sw / 2)) : Nat) : Int))) (by omega) (by omega))) rfl ?_
  refine x_y (v := .int .i64 ((((far (((sw : Nat) : Int)) (((((j).toNat / (sw / 2)) : Nat) : Int))) : Nat) : Int))) (y_move rfl) rfl ?_
  have hdm := Nat.div_mul_le_self (j.toNat % (sw / 2)) (far ((sw : Nat) : Int) ((j.toNat / (sw / 2) : Nat) : Int))
  refine x_y (v := .int .i64 (((((((j).toNat % (sw / 2)) / (far (((sw : Nat) : Int)) (((((j).toNat / (sw / 2)) : Nat) : Int)))) * (far (((sw : Nat) : Int)) (((((j).toNat / (sw / 2)) : Nat) : Int)))) : Nat) : Int))) (y_mul (a := (((((j).toNat % (sw / 2)) / (far (((sw : Nat) : Int)) (((((j).toNat / (sw / 2)) : Nat) : Int)))) : Nat) : Int)) (b := (((far (((sw : Nat) : Int)) (((((j).toNat / (sw / 2)) : Nat) : Int))) : Nat) : Int)) (c := ((((((j).toNat % (sw / 2)) / (far (((sw : Nat) : Int)) (((((j).toNat / (sw / 2)) : Nat) : Int)))) * (far (((sw : Nat) : Int)) (((((j).toNat / (sw / 2)) : Nat) : Int)))) : Nat) : Int)) rfl rfl (wI (by omega) (by omega) (by omega))) rfl ?_
  refine x_y (v := .int .i64 ((((((((j).toNat % (sw / 2)) / (far (((sw : Nat) : Int)) (((((j).toNat / (sw / 2)) : Nat) : Int)))) * (far (((sw : Nat) : Int)) (((((j).toNat / (sw / 2)) : Nat) : Int)))) * 2) : Nat) : Int))) (y_mul (a := ((((((j).toNat % (sw / 2)) / (far (((sw : Nat) : Int)) (((((j).toNat / (sw / 2)) : Nat) : Int)))) * (far (((sw : Nat) : Int)) (((((j).toNat / (sw / 2)) : Nat) : Int)))) : Nat) : Int)) (b := 2) (c := (((((((j).toNat % (sw / 2)) / (far (((sw : Nat) : Int)) (((((j).toNat / (sw / 2)) : Nat) : Int)))) * (far (((sw : Nat) : Int)) (((((j).toNat / (sw / 2)) : Nat) : Int)))) * 2) : Nat) : Int)) rfl rfl (wI (by omega) (by omega) (by omega))) rfl ?_
  refine x_y (v := .int .i64 (((((j).toNat % (sw / 2)) : Nat) : Int))) (y_move rfl) rfl ?_
  refine x_y (v := .int .i64 ((((far (((sw : Nat) : Int)) (((((j).toNat / (sw / 2)) : Nat) : Int))) : Nat) : Int))) (y_move rfl) rfl ?_
  refine x_y (v := .int .i64 ((((((j).toNat % (sw / 2)) % (far (((sw : Nat) : Int)) (((((j).toNat / (sw / 2)) : Nat) : Int)))) : Nat) : Int))) (y_rem (a := ((((j).toNat % (sw / 2)) : Nat) : Int)) (b := (((far (((sw : Nat) : Int)) (((((j).toNat / (sw / 2)) : Nat) : Int))) : Nat) : Int)) (c := (((((j).toNat % (sw / 2)) % (far (((sw : Nat) : Int)) (((((j).toNat / (sw / 2)) : Nat) : Int)))) : Nat) : Int)) rfl rfl (by omega) (n_rem _ (far (((sw : Nat) : Int)) (((((j).toNat / (sw / 2)) : Nat) : Int))) (by omega))) rfl ?_
  refine x_y (v := .int .i64 ((((prA sw j.toNat) : Nat) : Int))) (y_add (a := (((((((j).toNat % (sw / 2)) / (far (((sw : Nat) : Int)) (((((j).toNat / (sw / 2)) : Nat) : Int)))) * (far (((sw : Nat) : Int)) (((((j).toNat / (sw / 2)) : Nat) : Int)))) * 2) : Nat) : Int)) (b := (((((j).toNat % (sw / 2)) % (far (((sw : Nat) : Int)) (((((j).toNat / (sw / 2)) : Nat) : Int)))) : Nat) : Int)) (c := (((prA sw j.toNat) : Nat) : Int)) rfl rfl (wI (by omega) (by omega) (by omega))) rfl ?_
  refine x_y (v := .int .i64 ((((prA sw j.toNat) : Nat) : Int))) (y_assign rfl) rfl ?_
  refine x_nil ?_
  refine thenS_n ?_
  refine wpS_seq ?_
  refine wpS_region ?_
  refine s_y (v := .int .i64 k) (y_move rfl) rfl ?_
  refine s_y (v := .int .i64 (((((j).toNat / (sw / 2)) : Nat) : Int))) (y_move rfl) rfl ?_
  refine s_y (v := .int .i64 ((((((j).toNat / (sw / 2)) + 1) : Nat) : Int))) (y_add (a := ((((j).toNat / (sw / 2)) : Nat) : Int)) (b := 1) (c := (((((j).toNat / (sw / 2)) + 1) : Nat) : Int)) rfl rfl (wI (by omega) (by omega) (by omega))) rfl ?_
  refine s_y (v := .int .i64 ((((prA sw j.toNat) : Nat) : Int))) (y_move rfl) rfl ?_
  refine s_y (v := .int .i64 ((((prA sw j.toNat) : Nat) : Int))) (y_move rfl) rfl ?_
  refine s_y (v := .int .i64 ((((far (((sw : Nat) : Int)) (((((j).toNat / (sw / 2)) : Nat) : Int))) : Nat) : Int))) (y_move rfl) rfl ?_
  refine s_y (v := .int .i64 (((((prA sw j.toNat) + (far (((sw : Nat) : Int)) (((((j).toNat / (sw / 2)) : Nat) : Int)))) : Nat) : Int))) (y_add (a := (((prA sw j.toNat) : Nat) : Int)) (b := (((far (((sw : Nat) : Int)) (((((j).toNat / (sw / 2)) : Nat) : Int))) : Nat) : Int)) (c := ((((prA sw j.toNat) + (far (((sw : Nat) : Int)) (((((j).toNat / (sw / 2)) : Nat) : Int)))) : Nat) : Int)) rfl rfl (wI (by omega) (by omega) (by omega))) rfl ?_
  refine s_y (v := .pointer (some ⟨b_1, 2, none⟩)) (y_fieldAddr (o' := 2) rfl Try.underlying184 rfl Try.sizeOf3 (by decide) rfl) rfl ?_
  refine s_y (v := .int .i64 (((sw : Nat) : Int))) (y_load1 rfl Try.isAgg3 (own1 (.t .h) rfl)) rfl ?_
  refine s_y (v := .int .i64 (((((j).toNat / (sw / 2)) : Nat) : Int))) (y_move rfl) rfl ?_
  refine s_y (v := .int .i64 ((((prA sw j.toNat) : Nat) : Int))) (y_move rfl) rfl ?_
  refine s_y (v := .bool ((up (((sw : Nat) : Int)) (((((j).toNat / (sw / 2)) : Nat) : Int)) ((((prA sw j.toNat) : Nat) : Int))))) (y_call (args := #[.int .i64 (((sw : Nat) : Int)), .int .i64 (((((j).toNat / (sw / 2)) : Nat) : Int)), .int .i64 ((((prA sw j.toNat) : Nat) : Int))]) (v := .bool ((up (((sw : Nat) : Int)) (((((j).toNat / (sw / 2)) : Nat) : Int)) ((((prA sw j.toNat) : Nat) : Int))))) Try.call59 (ev3 rfl rfl rfl) (fun w hs => up_c (((sw : Nat) : Int)) (((((j).toNat / (sw / 2)) : Nat) : Int)) ((((prA sw j.toNat) : Nat) : Int)) (by omega) (by omega) (by omega) (by omega) (by omega) (by omega) w)) rfl ?_
  refine s_y (v := .agg #[.int .i64 k, .int .i64 ((((((j).toNat / (sw / 2)) + 1) : Nat) : Int)), .int .i64 ((((prA sw j.toNat) : Nat) : Int)), .int .i64 (((((prA sw j.toNat) + (far (((sw : Nat) : Int)) (((((j).toNat / (sw / 2)) : Nat) : Int)))) : Nat) : Int)), .bool ((up (((sw : Nat) : Int)) (((((j).toNat / (sw / 2)) : Nat) : Int)) ((((prA sw j.toNat) : Nat) : Int))))]) (y_buildL (m := [(0, .int .i64 k), (1, .int .i64 ((((((j).toNat / (sw / 2)) + 1) : Nat) : Int))), (2, .int .i64 ((((prA sw j.toNat) : Nat) : Int))), (3, .int .i64 (((((prA sw j.toNat) + (far (((sw : Nat) : Int)) (((((j).toNat / (sw / 2)) : Nat) : Int)))) : Nat) : Int))), (4, .bool ((up (((sw : Nat) : Int)) (((((j).toNat / (sw / 2)) : Nat) : Int)) ((((prA sw j.toNat) : Nat) : Int)))))]) (vs := #[.int .i64 k, .int .i64 ((((((j).toNat / (sw / 2)) + 1) : Nat) : Int)), .int .i64 ((((prA sw j.toNat) : Nat) : Int)), .int .i64 (((((prA sw j.toNat) + (far (((sw : Nat) : Int)) (((((j).toNat / (sw / 2)) : Nat) : Int)))) : Nat) : Int)), .bool ((up (((sw : Nat) : Int)) (((((j).toNat / (sw / 2)) : Nat) : Int)) ((((prA sw j.toNat) : Nat) : Int))))]) (evc rfl (evc rfl (evc rfl (evc rfl (evc rfl evn))))) (fun w => by kernel_rfl)) rfl ?_
  refine s_e0 ?_
  refine e_store (vs := [.int .i64 k, .int .i64 ((((((j).toNat / (sw / 2)) + 1) : Nat) : Int)), .int .i64 ((((prA sw j.toNat) : Nat) : Int)), .int .i64 (((((prA sw j.toNat) + (far (((sw : Nat) : Int)) (((((j).toNat / (sw / 2)) : Nat) : Int)))) : Nat) : Int)), .bool ((up (((sw : Nat) : Int)) (((((j).toNat / (sw / 2)) : Nat) : Int)) ((((prA sw j.toNat) : Nat) : Int))))]) (l' := [.int .i64 k, .int .i64 ((((((j).toNat / (sw / 2)) + 1) : Nat) : Int)), .int .i64 ((((prA sw j.toNat) : Nat) : Int)), .int .i64 (((((prA sw j.toNat) + (far (((sw : Nat) : Int)) (((((j).toNat / (sw / 2)) : Nat) : Int)))) : Nat) : Int)), .bool ((up (((sw : Nat) : Int)) (((((j).toNat / (sw / 2)) : Nat) : Int)) ((((prA sw j.toNat) : Nat) : Int))))]) rfl rfl rfl rfl Try.sizeOf120 .h (Nat.le_of_ble_eq_true rfl) rfl ?_
  refine wpL_nil ?_
  refine thenS_n ?_
  refine wpS_ret ?_
  refine fin1' (M := [cel b_2 120 [.int .i64 k, .int .i64 ((((((j).toNat / (sw / 2)) + 1) : Nat) : Int)), .int .i64 ((((prA sw j.toNat) : Nat) : Int)), .int .i64 (((((prA sw j.toNat) + (far (((sw : Nat) : Int)) (((((j).toNat / (sw / 2)) : Nat) : Int)))) : Nat) : Int)), .bool ((up (((sw : Nat) : Int)) (((((j).toNat / (sw / 2)) : Nat) : Int)) ((((prA sw j.toNat) : Nat) : Int))))]]) (.inr rfl) (.p .h .nil) Try.results200 (rvC (vs := [.int .i64 k, .int .i64 ((((((j).toNat / (sw / 2)) + 1) : Nat) : Int)), .int .i64 ((((prA sw j.toNat) : Nat) : Int)), .int .i64 (((((prA sw j.toNat) + (far (((sw : Nat) : Int)) (((((j).toNat / (sw / 2)) : Nat) : Int)))) : Nat) : Int)), .bool ((up (((sw : Nat) : Int)) (((((j).toNat / (sw / 2)) : Nat) : Int)) ((((prA sw j.toNat) : Nat) : Int))))]) rfl Try.isAgg120 Try.sizeOf120 (fun w hs => ownN .h rfl w hs)) ?_
  intro w' hs; exact ⟨rfl, SH.dropAll (L := []) [_] hs⟩

theorem task_c (p : Par) (i : Int) (w : World) : Pure Try.prog 122 #[.agg #[.int .i64 (p.n0), .int .i64 (p.n1), .int .i64 (p.n2), .int .i64 (p.n3)], .int .i64 i] w (.tuple #[.agg #[.int .i64 (((tkAt p i).1).t0), .int .i64 (((tkAt p i).1).t1), .int .i64 (((tkAt p i).1).t2), .int .i64 (((tkAt p i).1).t3), .bool (((tkAt p i).1).t4)], .bool ((tkAt p i).2)]) := by
  refine calls_S (n := 69) (σ0 := (upd (upd fr0 0 (.agg #[.int .i64 (p.n0), .int .i64 (p.n1), .int .i64 (p.n2), .int .i64 (p.n3)])) 1 (.int .i64 i))) (D := []) (A := []) Try.func122 rfl Try.ntmps122 rfl (a2_fr _ _) (SH.start w) ?_
  have hs1 := sl_le p
  have hs2 := bk_bd p
  have hs3 := nbk_bd p
  have hs4 := rh_bd p
  have hs5 := nb_sl p
  have hs6 := ofP_6 p
  have hs7 := ofP_7 p
  have hs8 := ofP_8 p
  have hs9 := ofP_9 p
  have hs0 := ofP_0 p
  refine wpS_seq ?_
  refine wpS_region ?_
  refine s_e rfl ?_
  refine e_box (v := .agg #[.int .i64 (p.n0), .int .i64 (p.n1), .int .i64 (p.n2), .int .i64 (p.n3)]) (l := [.int .i64 (p.n0), .int .i64 (p.n1), .int .i64 (p.n2), .int .i64 (p.n3)]) rfl rfl ?_
  intro b_1
  refine s_e rfl ?_
  refine e_alloc (l := [.int .i64 0, .int .i64 0, .int .i64 0, .int .i64 0, .bool false]) Try.zeroValue120 rfl ?_
  intro b_2
  refine s_y (v := .bool false) (y_assign rfl) rfl ?_
  refine wpL_nil ?_
  refine thenS_n ?_
  refine wpS_seq ?_
  refine wpS_region ?_
  refine s_y (v := .agg #[.int .i64 (p.n0), .int .i64 (p.n1), .int .i64 (p.n2), .int .i64 (p.n3)]) (y_loadN (vs := [.int .i64 (p.n0), .int .i64 (p.n1), .int .i64 (p.n2), .int .i64 (p.n3)]) rfl Try.isAgg53 Try.sizeOf53 (ownN (.t .h) rfl)) rfl ?_
  refine s_y (v := .agg #[.int .i64 ((ofP p).q0), .int .i64 (bk p), .int .i64 ((((sl p) : Nat) : Int)), .int .i64 ((((rnd ((sl p : Nat) : Int)) : Nat) : Int)), .int .i64 ((((sl p / 2) : Nat) : Int)), .int .i64 (bk p), .int .i64 ((ofP p).q6), .int .i64 ((ofP p).q7), .int .i64 ((ofP p).q8), .int .i64 ((ofP p).q9)]) (y_call (args := #[.agg #[.int .i64 (p.n0), .int .i64 (p.n1), .int .i64 (p.n2), .int .i64 (p.n3)]]) (v := .agg #[.int .i64 ((ofP p).q0), .int .i64 (bk p), .int .i64 ((((sl p) : Nat) : Int)), .int .i64 ((((rnd ((sl p : Nat) : Int)) : Nat) : Int)), .int .i64 ((((sl p / 2) : Nat) : Int)), .int .i64 (bk p), .int .i64 ((ofP p).q6), .int .i64 ((ofP p).q7), .int .i64 ((ofP p).q8), .int .i64 ((ofP p).q9)]) Try.call160 (ev1 rfl) (fun w hs => of2_c p w)) rfl ?_
  refine s_e rfl ?_
  refine e_alloc (l := [.int .i64 0, .int .i64 0, .int .i64 0, .int .i64 0, .int .i64 0, .int .i64 0, .int .i64 0, .int .i64 0, .int .i64 0, .int .i64 0]) Try.zeroValue184 rfl ?_
  intro b_3
  refine s_e0 ?_
  refine e_store (vs := [.int .i64 ((ofP p).q0), .int .i64 (bk p), .int .i64 ((((sl p) : Nat) : Int)), .int .i64 ((((rnd ((sl p : Nat) : Int)) : Nat) : Int)), .int .i64 ((((sl p / 2) : Nat) : Int)), .int .i64 (bk p), .int .i64 ((ofP p).q6), .int .i64 ((ofP p).q7), .int .i64 ((ofP p).q8), .int .i64 ((ofP p).q9)]) (l' := [.int .i64 ((ofP p).q0), .int .i64 (bk p), .int .i64 ((((sl p) : Nat) : Int)), .int .i64 ((((rnd ((sl p : Nat) : Int)) : Nat) : Int)), .int .i64 ((((sl p / 2) : Nat) : Int)), .int .i64 (bk p), .int .i64 ((ofP p).q6), .int .i64 ((ofP p).q7), .int .i64 ((ofP p).q8), .int .i64 ((ofP p).q9)]) rfl rfl rfl rfl Try.sizeOf184 .h (Nat.le_of_ble_eq_true rfl) rfl ?_
  refine wpL_nil ?_
  refine thenS_n ?_
  refine wpS_seq ?_
  refine wpS_block ?_
  refine wpS_seq ?_
  refine wpS_region ?_
  refine s_y (v := .int .i64 i) (y_move rfl) rfl ?_
  refine s_y (v := .bool (decide ((i : Int) < 0))) (y_lss (a := i) (b := 0) rfl rfl rfl) rfl ?_
  refine s_y (v := .bool (decide ((i : Int) < 0))) (y_move rfl) rfl ?_
  rcases Bool.eq_false_or_eq_true (decide ((i : Int) < 0)) with b4 | b4
  · -- decide ((i : Int) < 0) True
    have p4 := of_decide_eq_true b4
    refine s_no rfl rfl rfl rfl (b' := decide ((i : Int) < 0)) rfl b4 ?_
    refine s_no rfl rfl rfl rfl (b' := decide ((i : Int) < 0)) rfl b4 ?_
    refine s_no rfl rfl rfl rfl (b' := decide ((i : Int) < 0)) rfl b4 ?_
    refine s_no rfl rfl rfl rfl (b' := decide ((i : Int) < 0)) rfl b4 ?_
    refine s_y (v := .bool true) (y_pickT (b := decide ((i : Int) < 0)) (v := .bool true) rfl b4 rfl) rfl ?_
    refine s_y (v := .bool true) (y_assign rfl) rfl ?_
    refine wpL_nil ?_
    refine thenS_n ?_
    refine wpS_cond_t rfl ?_
    refine wpS_seq ?_
    refine wpS_region ?_
    refine s_y (v := .agg #[.int .i64 0, .int .i64 0, .int .i64 0, .int .i64 0, .bool false]) (y_buildL (m := []) (vs := #[.int .i64 0, .int .i64 0, .int .i64 0, .int .i64 0, .bool false]) evn (fun w => by kernel_rfl)) rfl ?_
    refine s_e0 ?_
    refine e_store (vs := [.int .i64 0, .int .i64 0, .int .i64 0, .int .i64 0, .bool false]) (l' := [.int .i64 0, .int .i64 0, .int .i64 0, .int .i64 0, .bool false]) rfl rfl rfl rfl Try.sizeOf120 (.t .h) (Nat.le_of_ble_eq_true rfl) rfl ?_
    refine s_y (v := .bool false) (y_assign rfl) rfl ?_
    refine wpL_nil ?_
    refine thenS_n ?_
    refine wpS_ret ?_
    refine blockS_r ?_
    refine thenS_r ?_
    refine fin2 (M := [cel b_2 120 [.int .i64 0, .int .i64 0, .int .i64 0, .int .i64 0, .bool false]]) (.inr rfl) (.p .h .nil) Try.results122 (rvC (vs := [.int .i64 0, .int .i64 0, .int .i64 0, .int .i64 0, .bool false]) rfl Try.isAgg120 Try.sizeOf120 (fun w hs => ownN .h rfl w hs)) (rvT (v := .bool false) rfl) ?_
    intro w' hs; exact ⟨congrArg (fun q : Task × Bool => Ending.returned (.tuple #[.agg (taskV q.1).toArray, .bool q.2])) (tk_0 (by omega)).symm, SH.dropAll (L := []) [_] hs⟩
  · -- decide ((i : Int) < 0) False
    have p4 := of_decide_eq_false b4
    refine s_gy (y_move rfl) rfl rfl rfl rfl (b' := decide ((i : Int) < 0)) rfl b4 ?_
    refine s_gy (y_fieldAddr (o' := 9) rfl Try.underlying184 rfl Try.sizeOf3 (by decide) rfl) rfl rfl rfl rfl (b' := decide ((i : Int) < 0)) rfl b4 ?_
    refine s_gy (y_load1 rfl Try.isAgg3 (own1 .h rfl)) rfl rfl rfl rfl (b' := decide ((i : Int) < 0)) rfl b4 ?_
    refine s_gy (y_geq (a := i) (b := (ofP p).q9) rfl rfl rfl) rfl rfl rfl rfl (b' := decide ((i : Int) < 0)) rfl b4 ?_
    refine s_y (v := .bool (decide (((ofP p).q9 : Int) ≤ i))) (y_pickF (b := decide ((i : Int) < 0)) (v := .bool (decide (((ofP p).q9 : Int) ≤ i))) rfl b4 rfl) rfl ?_
    refine s_y (v := .bool (decide (((ofP p).q9 : Int) ≤ i))) (y_assign rfl) rfl ?_
    refine wpL_nil ?_
    refine thenS_n ?_
    refine wpS_cond (t := decide (((ofP p).q9 : Int) ≤ i)) rfl (fun b5 => ?_) (fun b5 => ?_)
    · -- decide (((ofP p).q9 : Int) ≤ i) true
      have p5 := of_decide_eq_true b5
      refine wpS_seq ?_
      refine wpS_region ?_
      refine s_y (v := .agg #[.int .i64 0, .int .i64 0, .int .i64 0, .int .i64 0, .bool false]) (y_buildL (m := []) (vs := #[.int .i64 0, .int .i64 0, .int .i64 0, .int .i64 0, .bool false]) evn (fun w => by kernel_rfl)) rfl ?_
      refine s_e0 ?_
      refine e_store (vs := [.int .i64 0, .int .i64 0, .int .i64 0, .int .i64 0, .bool false]) (l' := [.int .i64 0, .int .i64 0, .int .i64 0, .int .i64 0, .bool false]) rfl rfl rfl rfl Try.sizeOf120 (.t .h) (Nat.le_of_ble_eq_true rfl) rfl ?_
      refine s_y (v := .bool false) (y_assign rfl) rfl ?_
      refine wpL_nil ?_
      refine thenS_n ?_
      refine wpS_ret ?_
      refine blockS_r ?_
      refine thenS_r ?_
      refine fin2 (M := [cel b_2 120 [.int .i64 0, .int .i64 0, .int .i64 0, .int .i64 0, .bool false]]) (.inr rfl) (.p .h .nil) Try.results122 (rvC (vs := [.int .i64 0, .int .i64 0, .int .i64 0, .int .i64 0, .bool false]) rfl Try.isAgg120 Try.sizeOf120 (fun w hs => ownN .h rfl w hs)) (rvT (v := .bool false) rfl) ?_
      intro w' hs; exact ⟨congrArg (fun q : Task × Bool => Ending.returned (.tuple #[.agg (taskV q.1).toArray, .bool q.2])) (tk_0 (by omega)).symm, SH.dropAll (L := []) [_] hs⟩
    · -- decide (((ofP p).q9 : Int) ≤ i) false
      have p5 := of_decide_eq_false b5
      have hbo := ok_of (p := p) (i := i) (by omega) (by omega)
      refine wpS_seq ?_
      refine wpS_region ?_
      refine s_y (v := .int .i64 i) (y_move rfl) rfl ?_
      refine s_y (v := .pointer (some ⟨b_3, 5, none⟩)) (y_fieldAddr (o' := 5) rfl Try.underlying184 rfl Try.sizeOf3 (by decide) rfl) rfl ?_
      refine s_y (v := .int .i64 (bk p)) (y_load1 rfl Try.isAgg3 (own1 .h rfl)) rfl ?_
      refine s_y (v := .bool (decide ((i : Int) < (bk p)))) (y_lss (a := i) (b := bk p) rfl rfl rfl) rfl ?_
      refine s_y (v := .bool (decide ((i : Int) < (bk p)))) (y_assign rfl) rfl ?_
      refine wpL_nil ?_
      refine thenS_n ?_
      refine wpS_cond (t := decide ((i : Int) < (bk p))) rfl (fun b6 => ?_) (fun b6 => ?_)
      · -- decide ((i : Int) < (bk p)) true
        have p6 := of_decide_eq_true b6
        refine wpS_seq ?_
        refine wpS_region ?_
        refine s_y (v := .int .i64 i) (y_move rfl) rfl ?_
        refine s_y (v := .agg #[.int .i64 1, .int .i64 0, .int .i64 i, .int .i64 0, .bool false]) (y_buildL (m := [(0, .int .i64 1), (2, .int .i64 i)]) (vs := #[.int .i64 1, .int .i64 0, .int .i64 i, .int .i64 0, .bool false]) (evc rfl (evc rfl evn)) (fun w => by kernel_rfl)) rfl ?_
        refine s_e0 ?_
        refine e_store (vs := [.int .i64 1, .int .i64 0, .int .i64 i, .int .i64 0, .bool false]) (l' := [.int .i64 1, .int .i64 0, .int .i64 i, .int .i64 0, .bool false]) rfl rfl rfl rfl Try.sizeOf120 (.t .h) (Nat.le_of_ble_eq_true rfl) rfl ?_
        refine s_y (v := .bool true) (y_assign rfl) rfl ?_
        refine wpL_nil ?_
        refine thenS_n ?_
        refine wpS_ret ?_
        refine blockS_r ?_
        refine thenS_r ?_
        refine fin2 (M := [cel b_2 120 [.int .i64 1, .int .i64 0, .int .i64 i, .int .i64 0, .bool false]]) (.inr rfl) (.p .h .nil) Try.results122 (rvC (vs := [.int .i64 1, .int .i64 0, .int .i64 i, .int .i64 0, .bool false]) rfl Try.isAgg120 Try.sizeOf120 (fun w hs => ownN .h rfl w hs)) (rvT (v := .bool true) rfl) ?_
        intro w' hs; exact ⟨congrArg (fun q : Task × Bool => Ending.returned (.tuple #[.agg (taskV q.1).toArray, .bool q.2])) (tk_1 (by omega) (by omega) (by omega) ).symm, SH.dropAll (L := []) [_] hs⟩
      · -- decide ((i : Int) < (bk p)) false
        have p6 := of_decide_eq_false b6
        refine wpS_seq ?_
        refine wpS_region ?_
        refine s_y (v := .int .i64 i) (y_move rfl) rfl ?_
        refine s_y (v := .pointer (some ⟨b_3, 6, none⟩)) (y_fieldAddr (o' := 6) rfl Try.underlying184 rfl Try.sizeOf3 (by decide) rfl) rfl ?_
        refine s_y (v := .int .i64 ((ofP p).q6)) (y_load1 rfl Try.isAgg3 (own1 .h rfl)) rfl ?_
        refine s_y (v := .bool (decide ((i : Int) < ((ofP p).q6)))) (y_lss (a := i) (b := (ofP p).q6) rfl rfl rfl) rfl ?_
        refine s_y (v := .bool (decide ((i : Int) < ((ofP p).q6)))) (y_assign rfl) rfl ?_
        refine wpL_nil ?_
        refine thenS_n ?_
        refine wpS_cond (t := decide ((i : Int) < ((ofP p).q6))) rfl (fun b7 => ?_) (fun b7 => ?_)
        · -- decide ((i : Int) < ((ofP p).q6)) true
          have p7 := of_decide_eq_true b7
          refine wpS_seq ?_
          refine wpS_region ?_
          refine s_y (v := .int .i64 i) (y_move rfl) rfl ?_
          refine s_y (v := .pointer (some ⟨b_3, 5, none⟩)) (y_fieldAddr (o' := 5) rfl Try.underlying184 rfl Try.sizeOf3 (by decide) rfl) rfl ?_
          refine s_y (v := .int .i64 (bk p)) (y_load1 rfl Try.isAgg3 (own1 .h rfl)) rfl ?_
          refine s_y (v := .int .i64 (i - (bk p))) (y_sub (a := i) (b := bk p) (c := i - (bk p)) rfl rfl (wI rfl (by omega) (by omega))) rfl ?_
          refine s_y (v := .pointer (some ⟨b_3, 0, none⟩)) (y_fieldAddr (o' := 0) rfl Try.underlying184 rfl Try.sizeOf3 (by decide) rfl) rfl ?_
          refine s_y (v := .int .i64 ((ofP p).q0)) (y_load1 rfl Try.isAgg3 (own1 .h rfl)) rfl ?_
          refine s_y (v := .pointer (some ⟨b_3, 1, none⟩)) (y_fieldAddr (o' := 1) rfl Try.underlying184 rfl Try.sizeOf3 (by decide) rfl) rfl ?_
          refine s_y (v := .int .i64 (bk p)) (y_load1 rfl Try.isAgg3 (own1 .h rfl)) rfl ?_
          refine s_y (v := .int .i64 ((ofP p).q0 * bk p)) (y_mul (a := (ofP p).q0) (b := bk p) (c := (ofP p).q0 * bk p) rfl rfl (wI rfl (by omega) (by omega))) rfl ?_
          refine s_y (v := .int .i64 ((i - (bk p)) + ((ofP p).q0 * bk p))) (y_add (a := i - (bk p)) (b := (ofP p).q0 * bk p) (c := (i - (bk p)) + ((ofP p).q0 * bk p)) rfl rfl (wI rfl (by omega) (by omega))) rfl ?_
          refine s_y (v := .agg #[.int .i64 2, .int .i64 0, .int .i64 ((i - (bk p)) + ((ofP p).q0 * bk p)), .int .i64 0, .bool false]) (y_buildL (m := [(0, .int .i64 2), (2, .int .i64 ((i - (bk p)) + ((ofP p).q0 * bk p)))]) (vs := #[.int .i64 2, .int .i64 0, .int .i64 ((i - (bk p)) + ((ofP p).q0 * bk p)), .int .i64 0, .bool false]) (evc rfl (evc rfl evn)) (fun w => by kernel_rfl)) rfl ?_
          refine s_e0 ?_
          refine e_store (vs := [.int .i64 2, .int .i64 0, .int .i64 ((i - (bk p)) + ((ofP p).q0 * bk p)), .int .i64 0, .bool false]) (l' := [.int .i64 2, .int .i64 0, .int .i64 ((i - (bk p)) + ((ofP p).q0 * bk p)), .int .i64 0, .bool false]) rfl rfl rfl rfl Try.sizeOf120 (.t .h) (Nat.le_of_ble_eq_true rfl) rfl ?_
          refine s_y (v := .bool true) (y_assign rfl) rfl ?_
          refine wpL_nil ?_
          refine thenS_n ?_
          refine wpS_ret ?_
          refine blockS_r ?_
          refine thenS_r ?_
          refine fin2 (M := [cel b_2 120 [.int .i64 2, .int .i64 0, .int .i64 ((i - (bk p)) + ((ofP p).q0 * bk p)), .int .i64 0, .bool false]]) (.inr rfl) (.p .h .nil) Try.results122 (rvC (vs := [.int .i64 2, .int .i64 0, .int .i64 ((i - (bk p)) + ((ofP p).q0 * bk p)), .int .i64 0, .bool false]) rfl Try.isAgg120 Try.sizeOf120 (fun w hs => ownN .h rfl w hs)) (rvT (v := .bool true) rfl) ?_
          intro w' hs; exact ⟨congrArg (fun q : Task × Bool => Ending.returned (.tuple #[.agg (taskV q.1).toArray, .bool q.2])) (tk_2 (by omega) (by omega) (by omega) (by omega) ).symm, SH.dropAll (L := []) [_] hs⟩
        · -- decide ((i : Int) < ((ofP p).q6)) false
          have p7 := of_decide_eq_false b7
          refine wpS_seq ?_
          refine wpS_region ?_
          refine s_y (v := .int .i64 i) (y_move rfl) rfl ?_
          refine s_y (v := .pointer (some ⟨b_3, 7, none⟩)) (y_fieldAddr (o' := 7) rfl Try.underlying184 rfl Try.sizeOf3 (by decide) rfl) rfl ?_
          refine s_y (v := .int .i64 ((ofP p).q7)) (y_load1 rfl Try.isAgg3 (own1 .h rfl)) rfl ?_
          refine s_y (v := .bool (decide ((i : Int) < ((ofP p).q7)))) (y_lss (a := i) (b := (ofP p).q7) rfl rfl rfl) rfl ?_
          refine s_y (v := .bool (decide ((i : Int) < ((ofP p).q7)))) (y_assign rfl) rfl ?_
          refine wpL_nil ?_
          refine thenS_n ?_
          refine wpS_cond (t := decide ((i : Int) < ((ofP p).q7))) rfl (fun b8 => ?_) (fun b8 => ?_)
          · -- decide ((i : Int) < ((ofP p).q7)) true
            have p8 := of_decide_eq_true b8
            refine wpS_seq ?_
            refine wpS_region ?_
            refine s_y (v := .agg #[.int .i64 ((ofP p).q0), .int .i64 (bk p), .int .i64 ((((sl p) : Nat) : Int)), .int .i64 ((((rnd ((sl p : Nat) : Int)) : Nat) : Int)), .int .i64 ((((sl p / 2) : Nat) : Int)), .int .i64 (bk p), .int .i64 ((ofP p).q6), .int .i64 ((ofP p).q7), .int .i64 ((ofP p).q8), .int .i64 ((ofP p).q9)]) (y_loadN (vs := [.int .i64 ((ofP p).q0), .int .i64 (bk p), .int .i64 ((((sl p) : Nat) : Int)), .int .i64 ((((rnd ((sl p : Nat) : Int)) : Nat) : Int)), .int .i64 ((((sl p / 2) : Nat) : Int)), .int .i64 (bk p), .int .i64 ((ofP p).q6), .int .i64 ((ofP p).q7), .int .i64 ((ofP p).q8), .int .i64 ((ofP p).q9)]) rfl Try.isAgg184 Try.sizeOf184 (ownN .h rfl)) rfl ?_
            refine s_y (v := .int .i64 i) (y_move rfl) rfl ?_
            refine s_y (v := .pointer (some ⟨b_3, 6, none⟩)) (y_fieldAddr (o' := 6) rfl Try.underlying184 rfl Try.sizeOf3 (by decide) rfl) rfl ?_
            refine s_y (v := .int .i64 ((ofP p).q6)) (y_load1 rfl Try.isAgg3 (own1 .h rfl)) rfl ?_
            refine s_y (v := .int .i64 (i - ((ofP p).q6))) (y_sub (a := i) (b := (ofP p).q6) (c := i - ((ofP p).q6)) rfl rfl (wI rfl (by omega) (by omega))) rfl ?_
            refine s_y (v := .agg #[.int .i64 ((prT (sl p) 3 (i - ((ofP p).q6)).toNat).t0), .int .i64 ((prT (sl p) 3 (i - ((ofP p).q6)).toNat).t1), .int .i64 ((prT (sl p) 3 (i - ((ofP p).q6)).toNat).t2), .int .i64 ((prT (sl p) 3 (i - ((ofP p).q6)).toNat).t3), .bool ((prT (sl p) 3 (i - ((ofP p).q6)).toNat).t4)]) (y_call (args := #[.agg #[.int .i64 ((ofP p).q0), .int .i64 (bk p), .int .i64 ((((sl p) : Nat) : Int)), .int .i64 ((((rnd ((sl p : Nat) : Int)) : Nat) : Int)), .int .i64 ((((sl p / 2) : Nat) : Int)), .int .i64 (bk p), .int .i64 ((ofP p).q6), .int .i64 ((ofP p).q7), .int .i64 ((ofP p).q8), .int .i64 ((ofP p).q9)], .int .i64 3, .int .i64 (i - ((ofP p).q6))]) (v := .agg #[.int .i64 ((prT (sl p) 3 (i - ((ofP p).q6)).toNat).t0), .int .i64 ((prT (sl p) 3 (i - ((ofP p).q6)).toNat).t1), .int .i64 ((prT (sl p) 3 (i - ((ofP p).q6)).toNat).t2), .int .i64 ((prT (sl p) 3 (i - ((ofP p).q6)).toNat).t3), .bool ((prT (sl p) 3 (i - ((ofP p).q6)).toNat).t4)]) Try.call200 (ev3 rfl rfl rfl) (fun w hs => pair_c ((ofP p).q0) (bk p) (((rnd ((sl p : Nat) : Int)) : Nat) : Int) (bk p) ((ofP p).q6) ((ofP p).q7) ((ofP p).q8) ((ofP p).q9) (sl p) 3 (i - ((ofP p).q6)) (sl_half hbo) (far_pl hbo (by omega)) (by omega) (by omega) (by omega) w)) rfl ?_
            refine s_e0 ?_
            refine e_store (vs := [.int .i64 ((prT (sl p) 3 (i - ((ofP p).q6)).toNat).t0), .int .i64 ((prT (sl p) 3 (i - ((ofP p).q6)).toNat).t1), .int .i64 ((prT (sl p) 3 (i - ((ofP p).q6)).toNat).t2), .int .i64 ((prT (sl p) 3 (i - ((ofP p).q6)).toNat).t3), .bool ((prT (sl p) 3 (i - ((ofP p).q6)).toNat).t4)]) (l' := [.int .i64 ((prT (sl p) 3 (i - ((ofP p).q6)).toNat).t0), .int .i64 ((prT (sl p) 3 (i - ((ofP p).q6)).toNat).t1), .int .i64 ((prT (sl p) 3 (i - ((ofP p).q6)).toNat).t2), .int .i64 ((prT (sl p) 3 (i - ((ofP p).q6)).toNat).t3), .bool ((prT (sl p) 3 (i - ((ofP p).q6)).toNat).t4)]) rfl rfl rfl rfl Try.sizeOf120 (.t .h) (Nat.le_of_ble_eq_true rfl) rfl ?_
            refine s_y (v := .bool true) (y_assign rfl) rfl ?_
            refine wpL_nil ?_
            refine thenS_n ?_
            refine wpS_ret ?_
            refine blockS_r ?_
            refine thenS_r ?_
            refine fin2 (M := [cel b_2 120 [.int .i64 ((prT (sl p) 3 (i - ((ofP p).q6)).toNat).t0), .int .i64 ((prT (sl p) 3 (i - ((ofP p).q6)).toNat).t1), .int .i64 ((prT (sl p) 3 (i - ((ofP p).q6)).toNat).t2), .int .i64 ((prT (sl p) 3 (i - ((ofP p).q6)).toNat).t3), .bool ((prT (sl p) 3 (i - ((ofP p).q6)).toNat).t4)]]) (.inr rfl) (.p .h .nil) Try.results122 (rvC (vs := [.int .i64 ((prT (sl p) 3 (i - ((ofP p).q6)).toNat).t0), .int .i64 ((prT (sl p) 3 (i - ((ofP p).q6)).toNat).t1), .int .i64 ((prT (sl p) 3 (i - ((ofP p).q6)).toNat).t2), .int .i64 ((prT (sl p) 3 (i - ((ofP p).q6)).toNat).t3), .bool ((prT (sl p) 3 (i - ((ofP p).q6)).toNat).t4)]) rfl Try.isAgg120 Try.sizeOf120 (fun w hs => ownN .h rfl w hs)) (rvT (v := .bool true) rfl) ?_
            intro w' hs; exact ⟨congrArg (fun q : Task × Bool => Ending.returned (.tuple #[.agg (taskV q.1).toArray, .bool q.2])) (tk_3 (by omega) (by omega) (by omega) (by omega) (by omega) ).symm, SH.dropAll (L := []) [_] hs⟩
          · -- decide ((i : Int) < ((ofP p).q7)) false
            have p8 := of_decide_eq_false b8
            refine wpS_seq ?_
            refine wpS_region ?_
            refine s_y (v := .int .i64 i) (y_move rfl) rfl ?_
            refine s_y (v := .pointer (some ⟨b_3, 8, none⟩)) (y_fieldAddr (o' := 8) rfl Try.underlying184 rfl Try.sizeOf3 (by decide) rfl) rfl ?_
            refine s_y (v := .int .i64 ((ofP p).q8)) (y_load1 rfl Try.isAgg3 (own1 .h rfl)) rfl ?_
            refine s_y (v := .bool (decide ((i : Int) < ((ofP p).q8)))) (y_lss (a := i) (b := (ofP p).q8) rfl rfl rfl) rfl ?_
            refine s_y (v := .bool (decide ((i : Int) < ((ofP p).q8)))) (y_assign rfl) rfl ?_
            refine wpL_nil ?_
            refine thenS_n ?_
            refine wpS_cond (t := decide ((i : Int) < ((ofP p).q8))) rfl (fun b9 => ?_) (fun b9 => ?_)
            · -- decide ((i : Int) < ((ofP p).q8)) true
              have p9 := of_decide_eq_true b9
              refine wpS_seq ?_
              refine wpS_region ?_
              refine s_y (v := .int .i64 i) (y_move rfl) rfl ?_
              refine s_y (v := .pointer (some ⟨b_3, 7, none⟩)) (y_fieldAddr (o' := 7) rfl Try.underlying184 rfl Try.sizeOf3 (by decide) rfl) rfl ?_
              refine s_y (v := .int .i64 ((ofP p).q7)) (y_load1 rfl Try.isAgg3 (own1 .h rfl)) rfl ?_
              refine s_y (v := .int .i64 (i - ((ofP p).q7))) (y_sub (a := i) (b := (ofP p).q7) (c := i - ((ofP p).q7)) rfl rfl (wI rfl (by omega) (by omega))) rfl ?_
              refine s_y (v := .agg #[.int .i64 4, .int .i64 0, .int .i64 (i - ((ofP p).q7)), .int .i64 0, .bool false]) (y_buildL (m := [(0, .int .i64 4), (2, .int .i64 (i - ((ofP p).q7)))]) (vs := #[.int .i64 4, .int .i64 0, .int .i64 (i - ((ofP p).q7)), .int .i64 0, .bool false]) (evc rfl (evc rfl evn)) (fun w => by kernel_rfl)) rfl ?_
              refine s_e0 ?_
              refine e_store (vs := [.int .i64 4, .int .i64 0, .int .i64 (i - ((ofP p).q7)), .int .i64 0, .bool false]) (l' := [.int .i64 4, .int .i64 0, .int .i64 (i - ((ofP p).q7)), .int .i64 0, .bool false]) rfl rfl rfl rfl Try.sizeOf120 (.t .h) (Nat.le_of_ble_eq_true rfl) rfl ?_
              refine s_y (v := .bool true) (y_assign rfl) rfl ?_
              refine wpL_nil ?_
              refine thenS_n ?_
              refine wpS_ret ?_
              refine blockS_r ?_
              refine thenS_r ?_
              refine fin2 (M := [cel b_2 120 [.int .i64 4, .int .i64 0, .int .i64 (i - ((ofP p).q7)), .int .i64 0, .bool false]]) (.inr rfl) (.p .h .nil) Try.results122 (rvC (vs := [.int .i64 4, .int .i64 0, .int .i64 (i - ((ofP p).q7)), .int .i64 0, .bool false]) rfl Try.isAgg120 Try.sizeOf120 (fun w hs => ownN .h rfl w hs)) (rvT (v := .bool true) rfl) ?_
              intro w' hs; exact ⟨congrArg (fun q : Task × Bool => Ending.returned (.tuple #[.agg (taskV q.1).toArray, .bool q.2])) (tk_4 (by omega) (by omega) (by omega) (by omega) (by omega) (by omega) ).symm, SH.dropAll (L := []) [_] hs⟩
            · -- decide ((i : Int) < ((ofP p).q8)) false
              have p9 := of_decide_eq_false b9
              refine wpS_skip ?_
              refine blockS_n ?_
              refine thenS_n ?_
              refine wpS_seq ?_
              refine wpS_region ?_
              refine s_y (v := .agg #[.int .i64 ((ofP p).q0), .int .i64 (bk p), .int .i64 ((((sl p) : Nat) : Int)), .int .i64 ((((rnd ((sl p : Nat) : Int)) : Nat) : Int)), .int .i64 ((((sl p / 2) : Nat) : Int)), .int .i64 (bk p), .int .i64 ((ofP p).q6), .int .i64 ((ofP p).q7), .int .i64 ((ofP p).q8), .int .i64 ((ofP p).q9)]) (y_loadN (vs := [.int .i64 ((ofP p).q0), .int .i64 (bk p), .int .i64 ((((sl p) : Nat) : Int)), .int .i64 ((((rnd ((sl p : Nat) : Int)) : Nat) : Int)), .int .i64 ((((sl p / 2) : Nat) : Int)), .int .i64 (bk p), .int .i64 ((ofP p).q6), .int .i64 ((ofP p).q7), .int .i64 ((ofP p).q8), .int .i64 ((ofP p).q9)]) rfl Try.isAgg184 Try.sizeOf184 (ownN .h rfl)) rfl ?_
              refine s_y (v := .int .i64 i) (y_move rfl) rfl ?_
              refine s_y (v := .pointer (some ⟨b_3, 8, none⟩)) (y_fieldAddr (o' := 8) rfl Try.underlying184 rfl Try.sizeOf3 (by decide) rfl) rfl ?_
              refine s_y (v := .int .i64 ((ofP p).q8)) (y_load1 rfl Try.isAgg3 (own1 .h rfl)) rfl ?_
              refine s_y (v := .int .i64 (i - ((ofP p).q8))) (y_sub (a := i) (b := (ofP p).q8) (c := i - ((ofP p).q8)) rfl rfl (wI rfl (by omega) (by omega))) rfl ?_
              refine s_y (v := .agg #[.int .i64 ((prT (sl p) 5 (i - ((ofP p).q8)).toNat).t0), .int .i64 ((prT (sl p) 5 (i - ((ofP p).q8)).toNat).t1), .int .i64 ((prT (sl p) 5 (i - ((ofP p).q8)).toNat).t2), .int .i64 ((prT (sl p) 5 (i - ((ofP p).q8)).toNat).t3), .bool ((prT (sl p) 5 (i - ((ofP p).q8)).toNat).t4)]) (y_call (args := #[.agg #[.int .i64 ((ofP p).q0), .int .i64 (bk p), .int .i64 ((((sl p) : Nat) : Int)), .int .i64 ((((rnd ((sl p : Nat) : Int)) : Nat) : Int)), .int .i64 ((((sl p / 2) : Nat) : Int)), .int .i64 (bk p), .int .i64 ((ofP p).q6), .int .i64 ((ofP p).q7), .int .i64 ((ofP p).q8), .int .i64 ((ofP p).q9)], .int .i64 5, .int .i64 (i - ((ofP p).q8))]) (v := .agg #[.int .i64 ((prT (sl p) 5 (i - ((ofP p).q8)).toNat).t0), .int .i64 ((prT (sl p) 5 (i - ((ofP p).q8)).toNat).t1), .int .i64 ((prT (sl p) 5 (i - ((ofP p).q8)).toNat).t2), .int .i64 ((prT (sl p) 5 (i - ((ofP p).q8)).toNat).t3), .bool ((prT (sl p) 5 (i - ((ofP p).q8)).toNat).t4)]) Try.call200 (ev3 rfl rfl rfl) (fun w hs => pair_c ((ofP p).q0) (bk p) (((rnd ((sl p : Nat) : Int)) : Nat) : Int) (bk p) ((ofP p).q6) ((ofP p).q7) ((ofP p).q8) ((ofP p).q9) (sl p) 5 (i - ((ofP p).q8)) (sl_half hbo) (far_pl hbo (by omega)) (by omega) (by omega) (by omega) w)) rfl ?_
              refine s_e0 ?_
              refine e_store (vs := [.int .i64 ((prT (sl p) 5 (i - ((ofP p).q8)).toNat).t0), .int .i64 ((prT (sl p) 5 (i - ((ofP p).q8)).toNat).t1), .int .i64 ((prT (sl p) 5 (i - ((ofP p).q8)).toNat).t2), .int .i64 ((prT (sl p) 5 (i - ((ofP p).q8)).toNat).t3), .bool ((prT (sl p) 5 (i - ((ofP p).q8)).toNat).t4)]) (l' := [.int .i64 ((prT (sl p) 5 (i - ((ofP p).q8)).toNat).t0), .int .i64 ((prT (sl p) 5 (i - ((ofP p).q8)).toNat).t1), .int .i64 ((prT (sl p) 5 (i - ((ofP p).q8)).toNat).t2), .int .i64 ((prT (sl p) 5 (i - ((ofP p).q8)).toNat).t3), .bool ((prT (sl p) 5 (i - ((ofP p).q8)).toNat).t4)]) rfl rfl rfl rfl Try.sizeOf120 (.t .h) (Nat.le_of_ble_eq_true rfl) rfl ?_
              refine s_y (v := .bool true) (y_assign rfl) rfl ?_
              refine wpL_nil ?_
              refine thenS_n ?_
              refine wpS_ret ?_
              refine fin2 (M := [cel b_2 120 [.int .i64 ((prT (sl p) 5 (i - ((ofP p).q8)).toNat).t0), .int .i64 ((prT (sl p) 5 (i - ((ofP p).q8)).toNat).t1), .int .i64 ((prT (sl p) 5 (i - ((ofP p).q8)).toNat).t2), .int .i64 ((prT (sl p) 5 (i - ((ofP p).q8)).toNat).t3), .bool ((prT (sl p) 5 (i - ((ofP p).q8)).toNat).t4)]]) (.inr rfl) (.p .h .nil) Try.results122 (rvC (vs := [.int .i64 ((prT (sl p) 5 (i - ((ofP p).q8)).toNat).t0), .int .i64 ((prT (sl p) 5 (i - ((ofP p).q8)).toNat).t1), .int .i64 ((prT (sl p) 5 (i - ((ofP p).q8)).toNat).t2), .int .i64 ((prT (sl p) 5 (i - ((ofP p).q8)).toNat).t3), .bool ((prT (sl p) 5 (i - ((ofP p).q8)).toNat).t4)]) rfl Try.isAgg120 Try.sizeOf120 (fun w hs => ownN .h rfl w hs)) (rvT (v := .bool true) rfl) ?_
              intro w' hs; exact ⟨congrArg (fun q : Task × Bool => Ending.returned (.tuple #[.agg (taskV q.1).toArray, .bool q.2])) (tk_5 (by omega) (by omega) (by omega) (by omega) (by omega) (by omega) ).symm, SH.dropAll (L := []) [_] hs⟩

theorem tasks_c (p : Par) (w : World) : Makes Try.prog 96 #[.agg #[.int .i64 (p.n0), .int .i64 (p.n1), .int .i64 (p.n2), .int .i64 (p.n3)]] w [] (X := Nat) (fun x : Nat => .func (.func 182) #[] #[.pointer (some ⟨x, 0, none⟩)]) (fun x : Nat => [cel x 53 [.int .i64 (p.n0), .int .i64 (p.n1), .int .i64 (p.n2), .int .i64 (p.n3)]]) (fun _ => True) := by
  refine calls_S (n := 4) (σ0 := (upd fr0 0 (.agg #[.int .i64 (p.n0), .int .i64 (p.n1), .int .i64 (p.n2), .int .i64 (p.n3)]))) (D := []) (A := []) Try.func96 rfl Try.ntmps96 rfl (a1_fr _) (SH.start w) ?_
  refine wpS_seq ?_
  refine wpS_region ?_
  refine s_e rfl ?_
  refine e_box (v := .agg #[.int .i64 (p.n0), .int .i64 (p.n1), .int .i64 (p.n2), .int .i64 (p.n3)]) (l := [.int .i64 (p.n0), .int .i64 (p.n1), .int .i64 (p.n2), .int .i64 (p.n3)]) rfl rfl ?_
  intro b_1
  refine s_y (v := .nilFunc) (y_assign rfl) rfl ?_
  refine wpL_nil ?_
  refine thenS_n ?_
  refine wpS_seq ?_
  refine wpS_region ?_
  refine s_y (v := .func (.func 182) #[] #[.pointer (some ⟨b_1, 0, none⟩)]) (y_makeFunc (a := #[]) (b := #[.pointer (some ⟨b_1, 0, none⟩)]) ev0 (ev1 rfl)) rfl ?_
  refine s_y (v := .func (.func 182) #[] #[.pointer (some ⟨b_1, 0, none⟩)]) (y_assign rfl) rfl ?_
  refine wpL_nil ?_
  refine thenS_n ?_
  refine wpS_ret ?_
  refine fin1 (M := [cel b_1 53 [.int .i64 (p.n0), .int .i64 (p.n1), .int .i64 (p.n2), .int .i64 (p.n3)]]) (v := .func (.func 182) #[] #[.pointer (some ⟨b_1, 0, none⟩)]) (.inr rfl) (.p .h .nil) Try.results96 rfl ?_
  exact fun w' hs => ⟨b_1, rfl, hs, trivial⟩

theorem tasks_it (b : Nat) (p : Par) (w : World) (hr : Rds w (some ⟨b, 0, none⟩) (parV p)) : Iter Try.prog 182 #[.pointer (some ⟨b, 0, none⟩)] (fun k => #[.int .i64 ((k : Nat) : Int), .agg #[.int .i64 ((tkN p k).t0), .int .i64 ((tkN p k).t1), .int .i64 ((tkN p k).t2), .int .i64 ((tkN p k).t3), .bool ((tkN p k).t4)]]) ((cnt p)) (fun z => z = b) w := by
  intro yv I E A hrd hI hA hY
  show Calls Try.prog 182 #[yv, .pointer (some ⟨b, 0, none⟩)] w _
  refine calls_S (n := 23) (σ0 := (upd (upd fr0 0 (yv)) 1 (.pointer (some ⟨b, 0, none⟩)))) (D := (A.flatMap Res.fp)) (A := A) Try.func182 rfl Try.ntmps182 rfl (a2_fr _ _) hA ?_
  have hcb := cnt_big p
  refine wpS_scope ?_
  refine wpS_seq ?_
  refine wpS_label ?_
  refine thenS_n ?_
  refine wpS_seq ?_
  refine wpS_region ?_
  refine s_y (v := .agg #[.int .i64 (p.n0), .int .i64 (p.n1), .int .i64 (p.n2), .int .i64 (p.n3)]) (y_loadN (vs := parV p) rfl Try.isAgg53 Try.sizeOf53 (rdN (k := 0) (oldRD hr (hrd _ rfl)) rfl)) rfl ?_
  refine s_y (v := .int .i64 ((((cnt p) : Nat) : Int))) (y_call (args := #[.agg #[.int .i64 (p.n0), .int .i64 (p.n1), .int .i64 (p.n2), .int .i64 (p.n3)]]) (v := .int .i64 ((((cnt p) : Nat) : Int))) Try.call65 (ev1 rfl) (fun w hs => count2_c p w)) rfl ?_
  refine s_y (v := .int .i64 0) (y_move rfl) rfl ?_
  refine wpL_nil ?_
  refine thenS_n ?_
  refine wpS_block ?_
  refine wpS_loop (fun mez ds σ L => ∃ i : Nat, ∃ A1 : List Res, mez = cnt p - i ∧ (i ≤ cnt p) ∧ (I i A1) ∧ ds = [] ∧ σ 0 = yv ∧ σ 1 = .pointer (some ⟨b, 0, none⟩) ∧ σ 7 = .int .i64 ((((cnt p) : Nat) : Int)) ∧ σ 8 = .int .i64 (((i : Nat) : Int)) ∧ Ent L (A1)) (m0 := cnt p - 0) ⟨0, A, rfl, by omega, hI, rfl, rfl, rfl, rfl, rfl, (Ent.refl _)⟩ ?_
  rintro mez ds σ L ⟨i, A1, hm_1, hf0_1, hf1_1, rfl, h0_1, h1_1, h7_1, h8_1, hE_1⟩
  refine wpS_ent hE_1 ?_; clear hE_1
  refine wpS_seq ?_
  refine wpS_region ?_
  refine s_y (v := .bool (decide (i < (cnt p)))) (y_lss (a := ((i : Nat) : Int)) (b := (((cnt p) : Nat) : Int)) (c := decide (i < (cnt p))) h8_1 h7_1 (decide_eq_decide.2 (by omega))) rfl ?_
  refine wpL_nil ?_
  refine thenS_n ?_
  refine wpS_seq ?_
  refine wpS_cond (t := decide (i < (cnt p))) rfl (fun b2 => ?_) (fun b2 => ?_)
  · -- decide (i < (cnt p)) true
    have p2 := of_decide_eq_true b2
    refine wpS_skip ?_
    refine thenS_n ?_
    refine wpS_seq ?_
    refine wpS_block ?_
    refine wpS_seq ?_
    refine wpS_region ?_
    refine s_y (v := .int .i64 (((i : Nat) : Int))) (y_move h8_1) rfl ?_
    refine s_y (v := .int .i64 (((i : Nat) : Int))) (y_assign rfl) rfl ?_
    refine wpL_nil ?_
    refine thenS_n ?_
    refine wpS_seq ?_
    refine wpS_region ?_
    refine s_y (v := .agg #[.int .i64 (p.n0), .int .i64 (p.n1), .int .i64 (p.n2), .int .i64 (p.n3)]) (y_loadN (vs := parV p) h1_1 Try.isAgg53 Try.sizeOf53 (rdN (k := 0) (oldRD hr (hrd _ rfl)) rfl)) rfl ?_
    refine s_y (v := .int .i64 (((i : Nat) : Int))) (y_move rfl) rfl ?_
    refine s_y (v := .tuple #[.agg #[.int .i64 (((tkAt p ((i : Nat) : Int)).1).t0), .int .i64 (((tkAt p ((i : Nat) : Int)).1).t1), .int .i64 (((tkAt p ((i : Nat) : Int)).1).t2), .int .i64 (((tkAt p ((i : Nat) : Int)).1).t3), .bool (((tkAt p ((i : Nat) : Int)).1).t4)], .bool ((tkAt p ((i : Nat) : Int)).2)]) (y_call (args := #[.agg #[.int .i64 (p.n0), .int .i64 (p.n1), .int .i64 (p.n2), .int .i64 (p.n3)], .int .i64 (((i : Nat) : Int))]) (v := .tuple #[.agg #[.int .i64 (((tkAt p ((i : Nat) : Int)).1).t0), .int .i64 (((tkAt p ((i : Nat) : Int)).1).t1), .int .i64 (((tkAt p ((i : Nat) : Int)).1).t2), .int .i64 (((tkAt p ((i : Nat) : Int)).1).t3), .bool (((tkAt p ((i : Nat) : Int)).1).t4)], .bool ((tkAt p ((i : Nat) : Int)).2)]) Try.call122 (ev2 rfl rfl) (fun w hs => task_c p ((i : Nat) : Int) w)) rfl ?_
    refine s_y (v := .tuple #[.agg #[.int .i64 (((tkAt p ((i : Nat) : Int)).1).t0), .int .i64 (((tkAt p ((i : Nat) : Int)).1).t1), .int .i64 (((tkAt p ((i : Nat) : Int)).1).t2), .int .i64 (((tkAt p ((i : Nat) : Int)).1).t3), .bool (((tkAt p ((i : Nat) : Int)).1).t4)], .bool ((tkAt p ((i : Nat) : Int)).2)]) (y_move rfl) rfl ?_
    refine s_y (v := .agg #[.int .i64 (((tkAt p ((i : Nat) : Int)).1).t0), .int .i64 (((tkAt p ((i : Nat) : Int)).1).t1), .int .i64 (((tkAt p ((i : Nat) : Int)).1).t2), .int .i64 (((tkAt p ((i : Nat) : Int)).1).t3), .bool (((tkAt p ((i : Nat) : Int)).1).t4)]) (y_extract (v := .agg #[.int .i64 (((tkAt p ((i : Nat) : Int)).1).t0), .int .i64 (((tkAt p ((i : Nat) : Int)).1).t1), .int .i64 (((tkAt p ((i : Nat) : Int)).1).t2), .int .i64 (((tkAt p ((i : Nat) : Int)).1).t3), .bool (((tkAt p ((i : Nat) : Int)).1).t4)]) rfl rfl) rfl ?_
    refine s_y (v := .bool ((tkAt p ((i : Nat) : Int)).2)) (y_extract (v := .bool ((tkAt p ((i : Nat) : Int)).2)) rfl rfl) rfl ?_
    refine s_e rfl ?_
    refine e_alloc (l := [.int .i64 0, .int .i64 0, .int .i64 0, .int .i64 0, .bool false]) Try.zeroValue120 rfl ?_
    intro b_3
    refine s_e0 ?_
    refine e_store (vs := [.int .i64 (((tkAt p ((i : Nat) : Int)).1).t0), .int .i64 (((tkAt p ((i : Nat) : Int)).1).t1), .int .i64 (((tkAt p ((i : Nat) : Int)).1).t2), .int .i64 (((tkAt p ((i : Nat) : Int)).1).t3), .bool (((tkAt p ((i : Nat) : Int)).1).t4)]) (l' := [.int .i64 (((tkAt p ((i : Nat) : Int)).1).t0), .int .i64 (((tkAt p ((i : Nat) : Int)).1).t1), .int .i64 (((tkAt p ((i : Nat) : Int)).1).t2), .int .i64 (((tkAt p ((i : Nat) : Int)).1).t3), .bool (((tkAt p ((i : Nat) : Int)).1).t4)]) rfl rfl rfl rfl Try.sizeOf120 .h (Nat.le_of_ble_eq_true rfl) rfl ?_
    refine s_y (v := .bool ((tkAt p ((i : Nat) : Int)).2)) (y_assign rfl) rfl ?_
    refine wpL_nil ?_
    refine thenS_n ?_
    refine wpS_seq ?_
    refine wpS_region ?_
    refine s_y (v := yv) (y_move h0_1) rfl ?_
    refine s_y (v := .int .i64 (((i : Nat) : Int))) (y_move rfl) rfl ?_
    refine s_y (v := .agg #[.int .i64 (((tkAt p ((i : Nat) : Int)).1).t0), .int .i64 (((tkAt p ((i : Nat) : Int)).1).t1), .int .i64 (((tkAt p ((i : Nat) : Int)).1).t2), .int .i64 (((tkAt p ((i : Nat) : Int)).1).t3), .bool (((tkAt p ((i : Nat) : Int)).1).t4)]) (y_loadN (vs := [.int .i64 (((tkAt p ((i : Nat) : Int)).1).t0), .int .i64 (((tkAt p ((i : Nat) : Int)).1).t1), .int .i64 (((tkAt p ((i : Nat) : Int)).1).t2), .int .i64 (((tkAt p ((i : Nat) : Int)).1).t3), .bool (((tkAt p ((i : Nat) : Int)).1).t4)]) rfl Try.isAgg120 Try.sizeOf120 (ownN .h rfl)) rfl ?_
    refine s_e rfl ?_
    refine e_yield (own := [cel b_3 120 [.int .i64 (((tkAt p ((i : Nat) : Int)).1).t0), .int .i64 (((tkAt p ((i : Nat) : Int)).1).t1), .int .i64 (((tkAt p ((i : Nat) : Int)).1).t2), .int .i64 (((tkAt p ((i : Nat) : Int)).1).t3), .bool (((tkAt p ((i : Nat) : Int)).1).t4)]]) (A := A1) (enc := (fun k => #[.int .i64 ((k : Nat) : Int), .agg #[.int .i64 ((tkN p k).t0), .int .i64 ((tkN p k).t1), .int .i64 ((tkN p k).t2), .int .i64 ((tkN p k).t3), .bool ((tkN p k).t4)]])) (k := i) hY rfl (ev2 rfl rfl) (by omega) (by assumption) ?_ ?_
    · intro A_4 hI_5
      refine s_y (v := .bool false) (y_notK (b := true) (c := false) rfl rfl) rfl ?_
      refine wpL_nil ?_
      refine thenS_n ?_
      refine wpS_cond_f rfl ?_
      refine wpS_skip ?_
      refine blockS_n ?_
      refine thenS_n ?_
      refine wpS_region ?_
      refine s_y (v := .int .i64 ((((i + 1) : Nat) : Int))) (y_add (a := ((i : Nat) : Int)) (b := 1) (c := (((i + 1) : Nat) : Int)) h8_1 rfl (wI (by omega) (by omega) (by omega))) rfl ?_
      refine s_y (v := .int .i64 ((((i + 1) : Nat) : Int))) (y_move rfl) rfl ?_
      refine wpL_nil ?_
      refine thenS_n ?_
      exact ⟨_, by omega, ⟨(i + 1), A_4, rfl, by omega, hI_5, rfl, h0_1, h1_1, h7_1, rfl, (Ent.skip _ (Ent.refl _))⟩⟩
    · intro A_6 hI_7
      refine s_y (v := .bool true) (y_notK (b := false) (c := true) rfl rfl) rfl ?_
      refine wpL_nil ?_
      refine thenS_n ?_
      refine wpS_cond_t rfl ?_
      refine wpS_exit ?_
      refine blockS_m rfl ?_
      refine thenS_x ?_
      refine thenS_x ?_
      refine blockS_h ?_
      refine scopeS_n ?_
      exact fin0 (.inl rfl) ((Ent.skip _ (Ent.refl _))) Try.results182 (fun w' hs => ⟨rfl, A_6, hs, .inr ⟨i, by omega, hI_7⟩⟩)
  · -- decide (i < (cnt p)) false
    have p2 := of_decide_eq_false b2
    refine wpS_exit ?_
    refine thenS_x ?_
    refine thenS_x ?_
    refine blockS_h ?_
    refine scopeS_n ?_
    exact fin0 (.inl rfl) ((Ent.refl _)) Try.results182 (fun w' hs => ⟨rfl, A1, hs, .inl (by rw [show cnt p = i by omega]; assumption)⟩)

theorem tasks_at (b : Nat) (p : Par) (w : World) (hr : Rds w (some ⟨b, 0, none⟩) (parV p)) : IterAt Try.prog 182 #[.pointer (some ⟨b, 0, none⟩)] (fun k => #[.int .i64 ((k : Nat) : Int), .agg #[.int .i64 ((tkN p k).t0), .int .i64 ((tkN p k).t1), .int .i64 ((tkN p k).t2), .int .i64 ((tkN p k).t3), .bool ((tkN p k).t4)]]) (cnt p) (fun z => z = b) w :=
  ⟨fun w' hs => tasks_it b p w' (hr.below (SH.below hs)), by
    rintro z rfl
    exact rdBlk hr (by rw [parV_len]; decide)⟩

end Go.Proofs.Ytldkjjnjdjfipaa
