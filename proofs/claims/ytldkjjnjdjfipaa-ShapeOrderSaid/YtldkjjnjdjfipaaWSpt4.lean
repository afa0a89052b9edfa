/- Which task makes a spot, walked. -/
import Derived.Test.YtldkjjnjdjfipaaWSpt1
namespace Go.Proofs.Ytldkjjnjdjfipaa
open Go Go.RowKit
set_option linter.unusedVariables false
set_option linter.unusedSimpArgs false
set_option maxRecDepth 10000
set_option maxHeartbeats 1000000

theorem mp_0 {p : Par} {s : Spot} (h0 : (s.s2 < 0 ∨ ((sl p : Nat) : Int) ≤ s.s2)) : makesP p s = -1 := by unfold makesP; rw [if_pos h0]
theorem mp_1 {p : Par} {s : Spot} (h0 : ¬ (s.s2 < 0 ∨ ((sl p : Nat) : Int) ≤ s.s2)) (h1 : (s.s0 = 1 ∧ s.s1 = 0 ∧ s.s2 < (ofP p).q0 * bk p)) : makesP p s = s.s2 / (ofP p).q0 := by unfold makesP; rw [if_neg h0, if_pos h1]
theorem mp_2 {p : Par} {s : Spot} (h0 : ¬ (s.s2 < 0 ∨ ((sl p : Nat) : Int) ≤ s.s2)) (h1 : ¬ (s.s0 = 1 ∧ s.s1 = 0 ∧ s.s2 < (ofP p).q0 * bk p)) (h2 : (s.s0 = 1 ∧ s.s1 = 0)) : makesP p s = bk p + s.s2 - (ofP p).q0 * bk p := by unfold makesP; rw [if_neg h0, if_neg h1, if_pos h2]
theorem mp_3 {p : Par} {s : Spot} (h0 : ¬ (s.s2 < 0 ∨ ((sl p : Nat) : Int) ≤ s.s2)) (h1 : ¬ (s.s0 = 1 ∧ s.s1 = 0 ∧ s.s2 < (ofP p).q0 * bk p)) (h2 : ¬ (s.s0 = 1 ∧ s.s1 = 0)) (h3 : (s.s0 = 2 ∧ 1 ≤ s.s1 ∧ s.s1 ≤ ((rnd ((sl p : Nat) : Int) : Nat) : Int))) : makesP p s = (ofP p).q6 + prd (sl p) s.s1 s.s2 := by unfold makesP; rw [if_neg h0, if_neg h1, if_neg h2, if_pos h3]
theorem mp_4 {p : Par} {s : Spot} (h0 : ¬ (s.s2 < 0 ∨ ((sl p : Nat) : Int) ≤ s.s2)) (h1 : ¬ (s.s0 = 1 ∧ s.s1 = 0 ∧ s.s2 < (ofP p).q0 * bk p)) (h2 : ¬ (s.s0 = 1 ∧ s.s1 = 0)) (h3 : ¬ (s.s0 = 2 ∧ 1 ≤ s.s1 ∧ s.s1 ≤ ((rnd ((sl p : Nat) : Int) : Nat) : Int))) (h4 : ((s.s0 = 3 ∨ s.s0 = 4) ∧ s.s1 = 0)) : makesP p s = (ofP p).q7 + s.s2 := by unfold makesP; rw [if_neg h0, if_neg h1, if_neg h2, if_neg h3, if_pos h4]
theorem mp_5 {p : Par} {s : Spot} (h0 : ¬ (s.s2 < 0 ∨ ((sl p : Nat) : Int) ≤ s.s2)) (h1 : ¬ (s.s0 = 1 ∧ s.s1 = 0 ∧ s.s2 < (ofP p).q0 * bk p)) (h2 : ¬ (s.s0 = 1 ∧ s.s1 = 0)) (h3 : ¬ (s.s0 = 2 ∧ 1 ≤ s.s1 ∧ s.s1 ≤ ((rnd ((sl p : Nat) : Int) : Nat) : Int))) (h4 : ¬ ((s.s0 = 3 ∨ s.s0 = 4) ∧ s.s1 = 0)) (h5 : (s.s0 = 5 ∧ 1 ≤ s.s1 ∧ s.s1 ≤ ((rnd ((sl p : Nat) : Int) : Nat) : Int))) : makesP p s = (ofP p).q8 + prd (sl p) s.s1 s.s2 := by unfold makesP; rw [if_neg h0, if_neg h1, if_neg h2, if_neg h3, if_neg h4, if_pos h5]
theorem mp_6 {p : Par} {s : Spot} (h0 : ¬ (s.s2 < 0 ∨ ((sl p : Nat) : Int) ≤ s.s2)) (h1 : ¬ (s.s0 = 1 ∧ s.s1 = 0 ∧ s.s2 < (ofP p).q0 * bk p)) (h2 : ¬ (s.s0 = 1 ∧ s.s1 = 0)) (h3 : ¬ (s.s0 = 2 ∧ 1 ≤ s.s1 ∧ s.s1 ≤ ((rnd ((sl p : Nat) : Int) : Nat) : Int))) (h4 : ¬ ((s.s0 = 3 ∨ s.s0 = 4) ∧ s.s1 = 0)) (h5 : ¬ (s.s0 = 5 ∧ 1 ≤ s.s1 ∧ s.s1 ≤ ((rnd ((sl p : Nat) : Int) : Nat) : Int))) : makesP p s = -1 := by unfold makesP; rw [if_neg h0, if_neg h1, if_neg h2, if_neg h3, if_neg h4, if_neg h5]
theorem q0_bd {p : Par} (h : ok p = true) : 1 ≤ (ofP p).q0 ∧ (ofP p).q0 ≤ 4 := by
  have := ok_bd h
  rw [ofP_yes h]
  exact ⟨this.2.2.1, this.2.2.2.1⟩
theorem far_s {p : Par} (h : ok p = true) {r : Int} (h1 : 1 ≤ r) (h2 : r ≤ ((rnd ((sl p : Nat) : Int) : Nat) : Int)) : 0 < far ((sl p : Nat) : Int) (r - 1) := by
  have h3 := far_pos h (r := (r - 1).toNat) (by omega)
  rw [show (((r - 1).toNat : Nat) : Int) = r - 1 by omega] at h3
  exact h3
theorem half_mul {r : Int} {w : Nat} (h1 : 1 ≤ r) (h2 : r ≤ 1000) (h3 : w ≤ 65536) : 0 ≤ (r - 1) * ((w / 2 : Nat) : Int) ∧ (r - 1) * ((w / 2 : Nat) : Int) ≤ 1000 * 32768 := by
  refine ⟨Int.mul_nonneg (by omega) (by omega), ?_⟩
  have h4 : (r - 1) * ((w / 2 : Nat) : Int) ≤ (r - 1) * 32768 := Int.mul_le_mul_of_nonneg_left (by omega) (by omega)
  omega
theorem div2_mul (a f : Nat) : a / (2 * f) * f ≤ a := by
  rw [Nat.mul_comm 2 f, ← Nat.div_div_eq_div_mul]
  have h1 := Nat.div_mul_le_self a f
  have h2 : a / f / 2 * f ≤ a / f * f := Nat.mul_le_mul_right f (Nat.div_le_self _ 2)
  omega
theorem prd_bd {w : Nat} {r s : Int} (h1 : 1 ≤ r) (h2 : r ≤ 1000) (h3 : w ≤ 65536) (h4 : 0 ≤ s) (h5 : s < 1000000) : 0 ≤ prd w r s ∧ prd w r s ≤ 100000000 := by
  have a := half_mul h1 h2 h3
  have b := div2_mul s.toNat (far ((w : Nat) : Int) (r - 1))
  have c := Nat.mod_le s.toNat (far ((w : Nat) : Int) (r - 1))
  unfold prd
  omega

theorem paired_c (x0 x1 x3 x5 x6 x7 x8 x9 : Int) (sw : Nat) (r s : Int) (hr1 : 1 ≤ r) (hr2 : r ≤ 1000) (hf : 0 < far ((sw : Nat) : Int) (r - 1)) (hsw : sw ≤ 65536) (hs0 : 0 ≤ s) (hs1 : s < 1000000) (w : World) : Pure Try.prog 205 #[.agg #[.int .i64 x0, .int .i64 x1, .int .i64 (((sw : Nat) : Int)), .int .i64 x3, .int .i64 ((((sw / 2) : Nat) : Int)), .int .i64 x5, .int .i64 x6, .int .i64 x7, .int .i64 x8, .int .i64 x9], .int .i64 r, .int .i64 s] w (.int .i64 (prd sw r s)) := by
  refine calls_S (n := 29) (σ0 := (upd (upd (upd fr0 0 (.agg #[.int .i64 x0, .int .i64 x1, .int .i64 (((sw : Nat) : Int)), .int .i64 x3, .int .i64 ((((sw / 2) : Nat) : Int)), .int .i64 x5, .int .i64 x6, .int .i64 x7, .int .i64 x8, .int .i64 x9])) 1 (.int .i64 r)) 2 (.int .i64 s))) (D := []) (A := []) Try.func205 rfl Try.ntmps205 rfl (a3_fr _ _ _) (SH.start w) ?_
  have hm := half_mul hr1 hr2 hsw
  have hd := div2_mul s.toNat (far ((sw : Nat) : Int) (r - 1))
  have hd2 := Nat.div_le_self s.toNat (2 * far ((sw : Nat) : Int) (r - 1))
  have hmo := Nat.mod_le s.toNat (far ((sw : Nat) : Int) (r - 1))
  have hfl := far_le ((sw : Nat) : Int) (r - 1)
  refine wpS_seq ?_
  refine wpS_region ?_
  refine s_e rfl ?_
  refine e_box (v := .agg #[.int .i64 x0, .int .i64 x1, .int .i64 (((sw : Nat) : Int)), .int .i64 x3, .int .i64 ((((sw / 2) : Nat) : Int)), .int .i64 x5, .int .i64 x6, .int .i64 x7, .int .i64 x8, .int .i64 x9]) (l := [.int .i64 x0, .int .i64 x1, .int .i64 (((sw : Nat) : Int)), .int .i64 x3, .int .i64 ((((sw / 2) : Nat) : Int)), .int .i64 x5, .int .i64 x6, .int .i64 x7, .int .i64 x8, .int .i64 x9]) rfl rfl ?_
  intro b_1
  refine s_y (v := .int .i64 0) (y_assign rfl) rfl ?_
  refine wpL_nil ?_
  refine thenS_n ?_
  refine wpS_seq ?_
  refine wpS_region ?_
  refine s_y (v := .pointer (some ⟨b_1, 2, none⟩)) (y_fieldAddr (o' := 2) rfl Try.underlying184 rfl Try.sizeOf3 (by decide) rfl) rfl ?_
  refine s_y (v := .int .i64 (((sw : Nat) : Int))) (y_load1 rfl Try.isAgg3 (own1 .h rfl)) rfl ?_
  refine s_y (v := .int .i64 r) (y_move rfl) rfl ?_
  refine s_y (v := .int .i64 (r - 1)) (y_sub (a := r) (b := 1) (c := r - 1) rfl rfl (wI rfl (by omega) (by omega))) rfl ?_
  refine s_y (v := .int .i64 ((((far (((sw : Nat) : Int)) (r - 1)) : Nat) : Int))) (y_call (args := #[.int .i64 (((sw : Nat) : Int)), .int .i64 (r - 1)]) (v := .int .i64 ((((far (((sw : Nat) : Int)) (r - 1)) : Nat) : Int))) Try.call153 (ev2 rfl rfl) (fun w hs => far_c (((sw : Nat) : Int)) (r - 1) (by omega) (by omega) (by omega) (by omega) w)) rfl ?_
  refine s_y (v := .int .i64 ((((far (((sw : Nat) : Int)) (r - 1)) : Nat) : Int))) (y_assign rfl) rfl ?_
  refine wpL_nil ?_
  refine thenS_n ?_
  refine wpS_seq ?_
  refine wpS_lex (by kernel_rfl) (by kernel_rfl) ?_
  refine x_y (v := .int .i64 r) (y_move rfl) rfl ?_
  refine x_y (v := .int .i64 (r - 1)) (y_sub (a := r) (b := 1) (c := r - 1) rfl rfl (wI rfl (by omega) (by omega))) rfl ?_
  refine x_y (v := .pointer (some ⟨b_1, 4, none⟩)) (y_fieldAddr (o' := 4) rfl Try.underlying184 rfl Try.sizeOf3 (by decide) rfl) rfl ?_
  refine x_y (v := .int .i64 ((((sw / 2) : Nat) : Int))) (y_load1 rfl Try.isAgg3 (own1 .h rfl)) rfl ?_
  refine x_y (v := .int .i64 ((r - 1) * ((sw / 2 : Nat) : Int))) (y_mul (a := r - 1) (b := (((sw / 2) : Nat) : Int)) (c := (r - 1) * ((sw / 2 : Nat) : Int)) rfl rfl (wI rfl (by omega) (by omega))) rfl ?_
  refine x_y (v := .int .i64 s) (y_move rfl) rfl ?_
  refine x_y (v := .int .i64 ((((far (((sw : Nat) : Int)) (r - 1)) : Nat) : Int))) (y_move rfl) rfl ?_
  refine x_y (v := .int .i64 ((((2 * (far (((sw : Nat) : Int)) (r - 1))) : Nat) : Int))) (y_mul (a := 2) (b := (((far (((sw : Nat) : Int)) (r - 1)) : Nat) : Int)) (c := (((2 * (far (((sw : Nat) : Int)) (r - 1))) : Nat) : Int)) rfl rfl (wI (by omega) (by omega) (by omega))) rfl ?_
  refine x_y (v := .int .i64 (((((s).toNat / (2 * (far (((sw : Nat) : Int)) (r - 1)))) : Nat) : Int))) (y_quo (a := s) (b := (((2 * (far (((sw : Nat) : Int)) (r - 1))) : Nat) : Int)) (c := ((((s).toNat / (2 * (far (((sw : Nat) : Int)) (r - 1)))) : Nat) : Int)) rfl rfl (by omega) (zq_quo (by omega) (by omega))) rfl ?_
  refine x_y (v := .int .i64 ((((far (((sw : Nat) : Int)) (r - 1)) : Nat) : Int))) (y_move rfl) rfl ?_
  refine x_y (v := .int .i64 ((((((s).toNat / (2 * (far (((sw : Nat) : Int)) (r - 1)))) * (far (((sw : Nat) : Int)) (r - 1))) : Nat) : Int))) (y_mul (a := ((((s).toNat / (2 * (far (((sw : Nat) : Int)) (r - 1)))) : Nat) : Int)) (b := (((far (((sw : Nat) : Int)) (r - 1)) : Nat) : Int)) (c := (((((s).toNat / (2 * (far (((sw : Nat) : Int)) (r - 1)))) * (far (((sw : Nat) : Int)) (r - 1))) : Nat) : Int)) rfl rfl (wI (by omega) (by omega) (by omega))) rfl ?_
  refine x_y (v := .int .i64 (((r - 1) * ((sw / 2 : Nat) : Int)) + (((((s).toNat / (2 * (far (((sw : Nat) : Int)) (r - 1)))) * (far (((sw : Nat) : Int)) (r - 1))) : Nat) : Int))) (y_add (a := (r - 1) * ((sw / 2 : Nat) : Int)) (b := (((((s).toNat / (2 * (far (((sw : Nat) : Int)) (r - 1)))) * (far (((sw : Nat) : Int)) (r - 1))) : Nat) : Int)) (c := ((r - 1) * ((sw / 2 : Nat) : Int)) + (((((s).toNat / (2 * (far (((sw : Nat) : Int)) (r - 1)))) * (far (((sw : Nat) : Int)) (r - 1))) : Nat) : Int)) rfl rfl (wI rfl (by omega) (by omega))) rfl ?_
  refine x_y (v := .int .i64 s) (y_move rfl) rfl ?_
  refine x_y (v := .int .i64 ((((far (((sw : Nat) : Int)) (r - 1)) : Nat) : Int))) (y_move rfl) rfl ?_
  refine x_y (v := .int .i64 (((((s).toNat % (far (((sw : Nat) : Int)) (r - 1))) : Nat) : Int))) (y_rem (a := s) (b := (((far (((sw : Nat) : Int)) (r - 1)) : Nat) : Int)) (c := ((((s).toNat % (far (((sw : Nat) : Int)) (r - 1))) : Nat) : Int)) rfl rfl (by omega) (zq_rem (by omega) (by omega))) rfl ?_
  refine x_y (v := .int .i64 ((((r - 1) * ((sw / 2 : Nat) : Int)) + (((((s).toNat / (2 * (far (((sw : Nat) : Int)) (r - 1)))) * (far (((sw : Nat) : Int)) (r - 1))) : Nat) : Int)) + ((((s).toNat % (far (((sw : Nat) : Int)) (r - 1))) : Nat) : Int))) (y_add (a := ((r - 1) * ((sw / 2 : Nat) : Int)) + (((((s).toNat / (2 * (far (((sw : Nat) : Int)) (r - 1)))) * (far (((sw : Nat) : Int)) (r - 1))) : Nat) : Int)) (b := ((((s).toNat % (far (((sw : Nat) : Int)) (r - 1))) : Nat) : Int)) (c := (((r - 1) * ((sw / 2 : Nat) : Int)) + (((((s).toNat / (2 * (far (((sw : Nat) : Int)) (r - 1)))) * (far (((sw : Nat) : Int)) (r - 1))) : Nat) : Int)) + ((((s).toNat % (far (((sw : Nat) : Int)) (r - 1))) : Nat) : Int)) rfl rfl (wI rfl (by omega) (by omega))) rfl ?_
  refine x_y (v := .int .i64 ((((r - 1) * ((sw / 2 : Nat) : Int)) + (((((s).toNat / (2 * (far (((sw : Nat) : Int)) (r - 1)))) * (far (((sw : Nat) : Int)) (r - 1))) : Nat) : Int)) + ((((s).toNat % (far (((sw : Nat) : Int)) (r - 1))) : Nat) : Int))) (y_assign rfl) rfl ?_
  refine x_nil ?_
  refine thenS_n ?_
  refine wpS_ret ?_
  refine fin1 (M := []) (v := .int .i64 ((((r - 1) * ((sw / 2 : Nat) : Int)) + (((((s).toNat / (2 * (far (((sw : Nat) : Int)) (r - 1)))) * (far (((sw : Nat) : Int)) (r - 1))) : Nat) : Int)) + ((((s).toNat % (far (((sw : Nat) : Int)) (r - 1))) : Nat) : Int))) (.inr rfl) (.nil) Try.results205 rfl ?_
  exact fun w' hs => ⟨rfl, hs⟩

theorem makes_c (p : Par) (s : Spot) (w : World) : Pure Try.prog 128 #[.agg #[.int .i64 (p.n0), .int .i64 (p.n1), .int .i64 (p.n2), .int .i64 (p.n3)], .agg #[.int .i64 (s.s0), .int .i64 (s.s1), .int .i64 (s.s2)]] w (.int .i64 (makesP p s)) := by
  refine calls_S (n := 124) (σ0 := (upd (upd fr0 0 (.agg #[.int .i64 (p.n0), .int .i64 (p.n1), .int .i64 (p.n2), .int .i64 (p.n3)])) 1 (.agg #[.int .i64 (s.s0), .int .i64 (s.s1), .int .i64 (s.s2)]))) (D := []) (A := []) Try.func128 rfl Try.ntmps128 rfl (a2_fr _ _) (SH.start w) ?_
  have hs1 := sl_le p
  have hs2 := bk_bd p
  have hs3 := nbk_bd p
  have hs4 := rh_bd p
  have hs5 := nb_sl p
  have hs6 := ofP_6 p
  have hs7 := ofP_7 p
  have hs8 := ofP_8 p
  have hs9 := ofP_9 p
  have hs0 := ofP_0 p
  have hrn := rnd_le ((sl p : Nat) : Int)
  refine wpS_seq ?_
  refine wpS_region ?_
  refine s_e rfl ?_
  refine e_box (v := .agg #[.int .i64 (p.n0), .int .i64 (p.n1), .int .i64 (p.n2), .int .i64 (p.n3)]) (l := [.int .i64 (p.n0), .int .i64 (p.n1), .int .i64 (p.n2), .int .i64 (p.n3)]) rfl rfl ?_
  intro b_1
  refine s_e rfl ?_
  refine e_box (v := .agg #[.int .i64 (s.s0), .int .i64 (s.s1), .int .i64 (s.s2)]) (l := [.int .i64 (s.s0), .int .i64 (s.s1), .int .i64 (s.s2)]) rfl rfl ?_
  intro b_2
  refine s_y (v := .int .i64 0) (y_assign rfl) rfl ?_
  refine wpL_nil ?_
  refine thenS_n ?_
  refine wpS_seq ?_
  refine wpS_region ?_
  refine s_y (v := .agg #[.int .i64 (p.n0), .int .i64 (p.n1), .int .i64 (p.n2), .int .i64 (p.n3)]) (y_loadN (vs := [.int .i64 (p.n0), .int .i64 (p.n1), .int .i64 (p.n2), .int .i64 (p.n3)]) rfl Try.isAgg53 Try.sizeOf53 (ownN (.t .h) rfl)) rfl ?_
  refine s_y (v := .agg #[.int .i64 ((ofP p).q0), .int .i64 (bk p), .int .i64 ((((sl p) : Nat) : Int)), .int .i64 ((((rnd ((sl p : Nat) : Int)) : Nat) : Int)), .int .i64 ((((sl p / 2) : Nat) : Int)), .int .i64 (bk p), .int .i64 ((ofP p).q6), .int .i64 ((ofP p).q7), .int .i64 ((ofP p).q8), .int .i64 ((ofP p).q9)]) (y_call (args := #[.agg #[.int .i64 (p.n0), .int .i64 (p.n1), .int .i64 (p.n2), .int .i64 (p.n3)]]) (v := .agg #[.int .i64 ((ofP p).q0), .int .i64 (bk p), .int .i64 ((((sl p) : Nat) : Int)), .int .i64 ((((rnd ((sl p : Nat) : Int)) : Nat) : Int)), .int .i64 ((((sl p / 2) : Nat) : Int)), .int .i64 (bk p), .int .i64 ((ofP p).q6), .int .i64 ((ofP p).q7), .int .i64 ((ofP p).q8), .int .i64 ((ofP p).q9)]) Try.call160 (ev1 rfl) (fun w hs => of2_c p w)) rfl ?_
  refine s_e rfl ?_
  refine e_alloc (l := [.int .i64 0, .int .i64 0, .int .i64 0, .int .i64 0, .int .i64 0, .int .i64 0, .int .i64 0, .int .i64 0, .int .i64 0, .int .i64 0]) Try.zeroValue184 rfl ?_
  intro b_3
  refine s_e0 ?_
  refine e_store (vs := [.int .i64 ((ofP p).q0), .int .i64 (bk p), .int .i64 ((((sl p) : Nat) : Int)), .int .i64 ((((rnd ((sl p : Nat) : Int)) : Nat) : Int)), .int .i64 ((((sl p / 2) : Nat) : Int)), .int .i64 (bk p), .int .i64 ((ofP p).q6), .int .i64 ((ofP p).q7), .int .i64 ((ofP p).q8), .int .i64 ((ofP p).q9)]) (l' := [.int .i64 ((ofP p).q0), .int .i64 (bk p), .int .i64 ((((sl p) : Nat) : Int)), .int .i64 ((((rnd ((sl p : Nat) : Int)) : Nat) : Int)), .int .i64 ((((sl p / 2) : Nat) : Int)), .int .i64 (bk p), .int .i64 ((ofP p).q6), .int .i64 ((ofP p).q7), .int .i64 ((ofP p).q8), .int .i64 ((ofP p).q9)]) rfl rfl rfl rfl Try.sizeOf184 .h (Nat.le_of_ble_eq_true rfl) rfl ?_
  refine wpL_nil ?_
  refine thenS_n ?_
  refine wpS_seq ?_
  refine wpS_seq ?_
  refine wpS_region ?_
  refine s_y (v := .pointer (some ⟨b_2, 2, none⟩)) (y_fieldAddr (o' := 2) rfl Try.underlying144 rfl Try.sizeOf3 (by decide) rfl) rfl ?_
  refine s_y (v := .int .i64 (s.s2)) (y_load1 rfl Try.isAgg3 (own1 (.t .h) rfl)) rfl ?_
  refine s_y (v := .bool (decide ((s.s2 : Int) < 0))) (y_lss (a := s.s2) (b := 0) rfl rfl rfl) rfl ?_
  refine s_y (v := .bool (decide ((s.s2 : Int) < 0))) (y_move rfl) rfl ?_
  rcases Bool.eq_false_or_eq_true (decide ((s.s2 : Int) < 0)) with b4 | b4
  · -- decide ((s.s2 : Int) < 0) True
    have p4 := of_decide_eq_true b4
    refine s_no rfl rfl rfl rfl (b' := decide ((s.s2 : Int) < 0)) rfl b4 ?_
    refine s_no rfl rfl rfl rfl (b' := decide ((s.s2 : Int) < 0)) rfl b4 ?_
    refine s_no rfl rfl rfl rfl (b' := decide ((s.s2 : Int) < 0)) rfl b4 ?_
    refine s_no rfl rfl rfl rfl (b' := decide ((s.s2 : Int) < 0)) rfl b4 ?_
    refine s_no rfl rfl rfl rfl (b' := decide ((s.s2 : Int) < 0)) rfl b4 ?_
    refine s_y (v := .bool true) (y_pickT (b := decide ((s.s2 : Int) < 0)) (v := .bool true) rfl b4 rfl) rfl ?_
    refine wpL_nil ?_
    refine thenS_n ?_
    refine wpS_cond_t rfl ?_
    refine wpS_seq ?_
    refine wpS_region ?_
    refine s_y (v := .int .i64 (-1)) (y_assign rfl) rfl ?_
    refine wpL_nil ?_
    refine thenS_n ?_
    refine wpS_ret ?_
    refine thenS_r ?_
    refine fin1 (M := []) (v := .int .i64 (-1)) (.inr rfl) (.nil) Try.results128 rfl ?_
    exact fun w' hs => ⟨congrArg (fun z : Int => Ending.returned (.int .i64 z)) (mp_0 (by omega) ).symm, hs⟩
  · -- decide ((s.s2 : Int) < 0) False
    have p4 := of_decide_eq_false b4
    refine s_gy (y_fieldAddr (o' := 2) rfl Try.underlying144 rfl Try.sizeOf3 (by decide) rfl) rfl rfl rfl rfl (b' := decide ((s.s2 : Int) < 0)) rfl b4 ?_
    refine s_gy (y_load1 rfl Try.isAgg3 (own1 (.t .h) rfl)) rfl rfl rfl rfl (b' := decide ((s.s2 : Int) < 0)) rfl b4 ?_
    refine s_gy (y_fieldAddr (o' := 2) rfl Try.underlying184 rfl Try.sizeOf3 (by decide) rfl) rfl rfl rfl rfl (b' := decide ((s.s2 : Int) < 0)) rfl b4 ?_
    refine s_gy (y_load1 rfl Try.isAgg3 (own1 .h rfl)) rfl rfl rfl rfl (b' := decide ((s.s2 : Int) < 0)) rfl b4 ?_
    refine s_gy (y_geq (a := s.s2) (b := (((sl p) : Nat) : Int)) rfl rfl rfl) rfl rfl rfl rfl (b' := decide ((s.s2 : Int) < 0)) rfl b4 ?_
    refine s_y (v := .bool (decide (((((sl p) : Nat) : Int) : Int) ≤ s.s2))) (y_pickF (b := decide ((s.s2 : Int) < 0)) (v := .bool (decide (((((sl p) : Nat) : Int) : Int) ≤ s.s2))) rfl b4 rfl) rfl ?_
    refine wpL_nil ?_
    refine thenS_n ?_
    refine wpS_cond (t := decide (((((sl p) : Nat) : Int) : Int) ≤ s.s2)) rfl (fun b5 => ?_) (fun b5 => ?_)
    · -- decide (((((sl p) : Nat) : Int) : Int) ≤ s.s2) true
      have p5 := of_decide_eq_true b5
      refine wpS_seq ?_
      refine wpS_region ?_
      refine s_y (v := .int .i64 (-1)) (y_assign rfl) rfl ?_
      refine wpL_nil ?_
      refine thenS_n ?_
      refine wpS_ret ?_
      refine thenS_r ?_
      refine fin1 (M := []) (v := .int .i64 (-1)) (.inr rfl) (.nil) Try.results128 rfl ?_
      exact fun w' hs => ⟨congrArg (fun z : Int => Ending.returned (.int .i64 z)) (mp_0 (by omega) ).symm, hs⟩
    · -- decide (((((sl p) : Nat) : Int) : Int) ≤ s.s2) false
      have p5 := of_decide_eq_false b5
      have hok3 := sl_1 (p := p) (by omega)
      have hq0 := q0_bd hok3
      refine wpS_skip ?_
      refine thenS_n ?_
      refine wpS_seq ?_
      refine wpS_region ?_
      refine s_y (v := .pointer (some ⟨b_2, 1, none⟩)) (y_fieldAddr (o' := 1) rfl Try.underlying144 rfl Try.sizeOf3 (by decide) rfl) rfl ?_
      refine s_y (v := .int .i64 (s.s1)) (y_load1 rfl Try.isAgg3 (own1 (.t .h) rfl)) rfl ?_
      refine s_y (v := .bool (decide ((1 : Int) ≤ s.s1))) (y_geq (a := s.s1) (b := 1) rfl rfl rfl) rfl ?_
      refine s_y (v := .bool (decide ((1 : Int) ≤ s.s1))) (y_move rfl) rfl ?_
      rcases Bool.eq_false_or_eq_true (decide ((1 : Int) ≤ s.s1)) with b6 | b6
      · -- decide ((1 : Int) ≤ s.s1) True
        have p6 := of_decide_eq_true b6
        refine s_gy (y_fieldAddr (o' := 1) rfl Try.underlying144 rfl Try.sizeOf3 (by decide) rfl) rfl rfl rfl rfl (b' := decide ((1 : Int) ≤ s.s1)) rfl b6 ?_
        refine s_gy (y_load1 rfl Try.isAgg3 (own1 (.t .h) rfl)) rfl rfl rfl rfl (b' := decide ((1 : Int) ≤ s.s1)) rfl b6 ?_
        refine s_gy (y_fieldAddr (o' := 3) rfl Try.underlying184 rfl Try.sizeOf3 (by decide) rfl) rfl rfl rfl rfl (b' := decide ((1 : Int) ≤ s.s1)) rfl b6 ?_
        refine s_gy (y_load1 rfl Try.isAgg3 (own1 .h rfl)) rfl rfl rfl rfl (b' := decide ((1 : Int) ≤ s.s1)) rfl b6 ?_
        refine s_gy (y_leq (a := s.s1) (b := (((rnd ((sl p : Nat) : Int)) : Nat) : Int)) rfl rfl rfl) rfl rfl rfl rfl (b' := decide ((1 : Int) ≤ s.s1)) rfl b6 ?_
        refine s_y (v := .bool (decide ((s.s1 : Int) ≤ (((rnd ((sl p : Nat) : Int)) : Nat) : Int)))) (y_pickT (b := decide ((1 : Int) ≤ s.s1)) (v := .bool (decide ((s.s1 : Int) ≤ (((rnd ((sl p : Nat) : Int)) : Nat) : Int)))) rfl b6 rfl) rfl ?_
        refine s_y (v := .bool (decide ((s.s1 : Int) ≤ (((rnd ((sl p : Nat) : Int)) : Nat) : Int)))) (y_assign rfl) rfl ?_
        refine wpL_nil ?_
        refine thenS_n ?_
        refine wpS_seq ?_
        refine wpS_block ?_
        refine wpS_seq ?_
        refine wpS_region ?_
        refine s_y (v := .pointer (some ⟨b_2, 0, none⟩)) (y_fieldAddr (o' := 0) rfl Try.underlying144 rfl Try.sizeOf3 (by decide) rfl) rfl ?_
        refine s_y (v := .int .i64 (s.s0)) (y_load1 rfl Try.isAgg3 (own1 (.t .h) rfl)) rfl ?_
        refine s_y (v := .bool (decide ((s.s0 : Int) = 1))) (y_eql (a := s.s0) (b := 1) rfl rfl rfl) rfl ?_
        refine s_y (v := .bool (decide ((s.s0 : Int) = 1))) (y_move rfl) rfl ?_
        rcases Bool.eq_false_or_eq_true (decide ((s.s0 : Int) = 1)) with b7 | b7
        · -- decide ((s.s0 : Int) = 1) True
          have p7 := of_decide_eq_true b7
          refine s_gy (y_fieldAddr (o' := 1) rfl Try.underlying144 rfl Try.sizeOf3 (by decide) rfl) rfl rfl rfl rfl (b' := decide ((s.s0 : Int) = 1)) rfl b7 ?_
          refine s_gy (y_load1 rfl Try.isAgg3 (own1 (.t .h) rfl)) rfl rfl rfl rfl (b' := decide ((s.s0 : Int) = 1)) rfl b7 ?_
          refine s_gy (y_eql (a := s.s1) (b := 0) rfl rfl rfl) rfl rfl rfl rfl (b' := decide ((s.s0 : Int) = 1)) rfl b7 ?_
          refine s_y (v := .bool (decide ((s.s1 : Int) = 0))) (y_pickT (b := decide ((s.s0 : Int) = 1)) (v := .bool (decide ((s.s1 : Int) = 0))) rfl b7 rfl) rfl ?_
          refine s_y (v := .bool (decide ((s.s1 : Int) = 0))) (y_move rfl) rfl ?_
          rcases Bool.eq_false_or_eq_true (decide ((s.s1 : Int) = 0)) with b8 | b8
          · -- decide ((s.s1 : Int) = 0) True
            have p8 := of_decide_eq_true b8
            refine s_gy (y_fieldAddr (o' := 2) rfl Try.underlying144 rfl Try.sizeOf3 (by decide) rfl) rfl rfl rfl rfl (b' := decide ((s.s1 : Int) = 0)) rfl b8 ?_
            refine s_gy (y_load1 rfl Try.isAgg3 (own1 (.t .h) rfl)) rfl rfl rfl rfl (b' := decide ((s.s1 : Int) = 0)) rfl b8 ?_
            refine s_gy (y_fieldAddr (o' := 0) rfl Try.underlying184 rfl Try.sizeOf3 (by decide) rfl) rfl rfl rfl rfl (b' := decide ((s.s1 : Int) = 0)) rfl b8 ?_
            refine s_gy (y_load1 rfl Try.isAgg3 (own1 .h rfl)) rfl rfl rfl rfl (b' := decide ((s.s1 : Int) = 0)) rfl b8 ?_
            refine s_gy (y_fieldAddr (o' := 1) rfl Try.underlying184 rfl Try.sizeOf3 (by decide) rfl) rfl rfl rfl rfl (b' := decide ((s.s1 : Int) = 0)) rfl b8 ?_
            refine s_gy (y_load1 rfl Try.isAgg3 (own1 .h rfl)) rfl rfl rfl rfl (b' := decide ((s.s1 : Int) = 0)) rfl b8 ?_
            refine s_gy (y_mul (a := (ofP p).q0) (b := bk p) (c := (ofP p).q0 * bk p) rfl rfl (wI rfl (by omega) (by omega))) rfl rfl rfl rfl (b' := decide ((s.s1 : Int) = 0)) rfl b8 ?_
            refine s_gy (y_lss (a := s.s2) (b := (ofP p).q0 * bk p) rfl rfl rfl) rfl rfl rfl rfl (b' := decide ((s.s1 : Int) = 0)) rfl b8 ?_
            refine s_y (v := .bool (decide ((s.s2 : Int) < ((ofP p).q0 * bk p)))) (y_pickT (b := decide ((s.s1 : Int) = 0)) (v := .bool (decide ((s.s2 : Int) < ((ofP p).q0 * bk p)))) rfl b8 rfl) rfl ?_
            refine s_y (v := .bool (decide ((s.s2 : Int) < ((ofP p).q0 * bk p)))) (y_assign rfl) rfl ?_
            refine wpL_nil ?_
            refine thenS_n ?_
            refine wpS_cond (t := decide ((s.s2 : Int) < ((ofP p).q0 * bk p))) rfl (fun b9 => ?_) (fun b9 => ?_)
            · -- decide ((s.s2 : Int) < ((ofP p).q0 * bk p)) true
              have p9 := of_decide_eq_true b9
              refine wpS_seq ?_
              refine wpS_region ?_
              refine s_y (v := .pointer (some ⟨b_2, 2, none⟩)) (y_fieldAddr (o' := 2) rfl Try.underlying144 rfl Try.sizeOf3 (by decide) rfl) rfl ?_
              refine s_y (v := .int .i64 (s.s2)) (y_load1 rfl Try.isAgg3 (own1 (.t .h) rfl)) rfl ?_
              refine s_y (v := .pointer (some ⟨b_3, 0, none⟩)) (y_fieldAddr (o' := 0) rfl Try.underlying184 rfl Try.sizeOf3 (by decide) rfl) rfl ?_
              refine s_y (v := .int .i64 ((ofP p).q0)) (y_load1 rfl Try.isAgg3 (own1 .h rfl)) rfl ?_
              refine s_y (v := .int .i64 (s.s2 / (ofP p).q0)) (y_quo (a := s.s2) (b := (ofP p).q0) (c := s.s2 / (ofP p).q0) rfl rfl (by omega) (z_quo (by omega) (by omega) (by omega))) rfl ?_
              refine s_y (v := .int .i64 (s.s2 / (ofP p).q0)) (y_assign rfl) rfl ?_
              refine wpL_nil ?_
              refine thenS_n ?_
              refine wpS_ret ?_
              refine blockS_r ?_
              refine thenS_r ?_
              refine fin1 (M := []) (v := .int .i64 (s.s2 / (ofP p).q0)) (.inr rfl) (.nil) Try.results128 rfl ?_
              exact fun w' hs => ⟨congrArg (fun z : Int => Ending.returned (.int .i64 z)) (mp_1 (by omega) (by omega) ).symm, hs⟩
            · -- decide ((s.s2 : Int) < ((ofP p).q0 * bk p)) false
              have p9 := of_decide_eq_false b9
              refine wpS_seq ?_
              refine wpS_region ?_
              refine s_y (v := .pointer (some ⟨b_2, 0, none⟩)) (y_fieldAddr (o' := 0) rfl Try.underlying144 rfl Try.sizeOf3 (by decide) rfl) rfl ?_
              refine s_y (v := .int .i64 (s.s0)) (y_load1 rfl Try.isAgg3 (own1 (.t .h) rfl)) rfl ?_
              refine s_y (v := .bool (decide ((s.s0 : Int) = 1))) (y_eql (a := s.s0) (b := 1) rfl rfl rfl) rfl ?_
              refine s_y (v := .bool (decide ((s.s0 : Int) = 1))) (y_move rfl) rfl ?_
              refine s_gy (y_fieldAddr (o' := 1) rfl Try.underlying144 rfl Try.sizeOf3 (by decide) rfl) rfl rfl rfl rfl (b' := decide ((s.s0 : Int) = 1)) rfl b7 ?_
              refine s_gy (y_load1 rfl Try.isAgg3 (own1 (.t .h) rfl)) rfl rfl rfl rfl (b' := decide ((s.s0 : Int) = 1)) rfl b7 ?_
              refine s_gy (y_eql (a := s.s1) (b := 0) rfl rfl rfl) rfl rfl rfl rfl (b' := decide ((s.s0 : Int) = 1)) rfl b7 ?_
              refine s_y (v := .bool (decide ((s.s1 : Int) = 0))) (y_pickT (b := decide ((s.s0 : Int) = 1)) (v := .bool (decide ((s.s1 : Int) = 0))) rfl b7 rfl) rfl ?_
              refine s_y (v := .bool (decide ((s.s1 : Int) = 0))) (y_assign rfl) rfl ?_
              refine wpL_nil ?_
              refine thenS_n ?_
              refine wpS_cond_T (t := decide ((s.s1 : Int) = 0)) rfl b8 ?_
              refine wpS_seq ?_
              refine wpS_region ?_
              refine s_y (v := .pointer (some ⟨b_3, 5, none⟩)) (y_fieldAddr (o' := 5) rfl Try.underlying184 rfl Try.sizeOf3 (by decide) rfl) rfl ?_
              refine s_y (v := .int .i64 (bk p)) (y_load1 rfl Try.isAgg3 (own1 .h rfl)) rfl ?_
              refine s_y (v := .pointer (some ⟨b_2, 2, none⟩)) (y_fieldAddr (o' := 2) rfl Try.underlying144 rfl Try.sizeOf3 (by decide) rfl) rfl ?_
              refine s_y (v := .int .i64 (s.s2)) (y_load1 rfl Try.isAgg3 (own1 (.t .h) rfl)) rfl ?_
              refine s_y (v := .int .i64 ((bk p) + s.s2)) (y_add (a := bk p) (b := s.s2) (c := (bk p) + s.s2) rfl rfl (wI rfl (by omega) (by omega))) rfl ?_
              refine s_y (v := .pointer (some ⟨b_3, 0, none⟩)) (y_fieldAddr (o' := 0) rfl Try.underlying184 rfl Try.sizeOf3 (by decide) rfl) rfl ?_
              refine s_y (v := .int .i64 ((ofP p).q0)) (y_load1 rfl Try.isAgg3 (own1 .h rfl)) rfl ?_
              refine s_y (v := .pointer (some ⟨b_3, 1, none⟩)) (y_fieldAddr (o' := 1) rfl Try.underlying184 rfl Try.sizeOf3 (by decide) rfl) rfl ?_
              refine s_y (v := .int .i64 (bk p)) (y_load1 rfl Try.isAgg3 (own1 .h rfl)) rfl ?_
              refine s_y (v := .int .i64 ((ofP p).q0 * bk p)) (y_mul (a := (ofP p).q0) (b := bk p) (c := (ofP p).q0 * bk p) rfl rfl (wI rfl (by omega) (by omega))) rfl ?_
              refine s_y (v := .int .i64 (((bk p) + s.s2) - ((ofP p).q0 * bk p))) (y_sub (a := (bk p) + s.s2) (b := (ofP p).q0 * bk p) (c := ((bk p) + s.s2) - ((ofP p).q0 * bk p)) rfl rfl (wI rfl (by omega) (by omega))) rfl ?_
              refine s_y (v := .int .i64 (((bk p) + s.s2) - ((ofP p).q0 * bk p))) (y_assign rfl) rfl ?_
              refine wpL_nil ?_
              refine thenS_n ?_
              refine wpS_ret ?_
              refine blockS_r ?_
              refine thenS_r ?_
              refine fin1 (M := []) (v := .int .i64 (((bk p) + s.s2) - ((ofP p).q0 * bk p))) (.inr rfl) (.nil) Try.results128 rfl ?_
              exact fun w' hs => ⟨congrArg (fun z : Int => Ending.returned (.int .i64 z)) (mp_2 (by omega) (by omega) (by omega) ).symm, hs⟩
          · -- decide ((s.s1 : Int) = 0) False
            have p8 := of_decide_eq_false b8
            refine s_no rfl rfl rfl rfl (b' := decide ((s.s1 : Int) = 0)) rfl b8 ?_
            refine s_no rfl rfl rfl rfl (b' := decide ((s.s1 : Int) = 0)) rfl b8 ?_
            refine s_no rfl rfl rfl rfl (b' := decide ((s.s1 : Int) = 0)) rfl b8 ?_
            refine s_no rfl rfl rfl rfl (b' := decide ((s.s1 : Int) = 0)) rfl b8 ?_
            refine s_no rfl rfl rfl rfl (b' := decide ((s.s1 : Int) = 0)) rfl b8 ?_
            refine s_no rfl rfl rfl rfl (b' := decide ((s.s1 : Int) = 0)) rfl b8 ?_
            refine s_no rfl rfl rfl rfl (b' := decide ((s.s1 : Int) = 0)) rfl b8 ?_
            refine s_no rfl rfl rfl rfl (b' := decide ((s.s1 : Int) = 0)) rfl b8 ?_
            refine s_y (v := .bool false) (y_pickF (b := decide ((s.s1 : Int) = 0)) (v := .bool false) rfl b8 rfl) rfl ?_
            refine s_y (v := .bool false) (y_assign rfl) rfl ?_
            refine wpL_nil ?_
            refine thenS_n ?_
            refine wpS_cond_f rfl ?_
            refine wpS_seq ?_
            refine wpS_region ?_
            refine s_y (v := .pointer (some ⟨b_2, 0, none⟩)) (y_fieldAddr (o' := 0) rfl Try.underlying144 rfl Try.sizeOf3 (by decide) rfl) rfl ?_
            refine s_y (v := .int .i64 (s.s0)) (y_load1 rfl Try.isAgg3 (own1 (.t .h) rfl)) rfl ?_
            refine s_y (v := .bool (decide ((s.s0 : Int) = 1))) (y_eql (a := s.s0) (b := 1) rfl rfl rfl) rfl ?_
            refine s_y (v := .bool (decide ((s.s0 : Int) = 1))) (y_move rfl) rfl ?_
            refine s_gy (y_fieldAddr (o' := 1) rfl Try.underlying144 rfl Try.sizeOf3 (by decide) rfl) rfl rfl rfl rfl (b' := decide ((s.s0 : Int) = 1)) rfl b7 ?_
            refine s_gy (y_load1 rfl Try.isAgg3 (own1 (.t .h) rfl)) rfl rfl rfl rfl (b' := decide ((s.s0 : Int) = 1)) rfl b7 ?_
            refine s_gy (y_eql (a := s.s1) (b := 0) rfl rfl rfl) rfl rfl rfl rfl (b' := decide ((s.s0 : Int) = 1)) rfl b7 ?_
            refine s_y (v := .bool (decide ((s.s1 : Int) = 0))) (y_pickT (b := decide ((s.s0 : Int) = 1)) (v := .bool (decide ((s.s1 : Int) = 0))) rfl b7 rfl) rfl ?_
            refine s_y (v := .bool (decide ((s.s1 : Int) = 0))) (y_assign rfl) rfl ?_
            refine wpL_nil ?_
            refine thenS_n ?_
            refine wpS_cond_F (t := decide ((s.s1 : Int) = 0)) rfl b8 ?_
            refine wpS_seq ?_
            refine wpS_region ?_
            refine s_y (v := .pointer (some ⟨b_2, 0, none⟩)) (y_fieldAddr (o' := 0) rfl Try.underlying144 rfl Try.sizeOf3 (by decide) rfl) rfl ?_
            refine s_y (v := .int .i64 (s.s0)) (y_load1 rfl Try.isAgg3 (own1 (.t .h) rfl)) rfl ?_
            refine s_y (v := .bool (decide ((s.s0 : Int) = 2))) (y_eql (a := s.s0) (b := 2) rfl rfl rfl) rfl ?_
            refine s_y (v := .bool (decide ((s.s0 : Int) = 2))) (y_move rfl) rfl ?_
            rcases Bool.eq_false_or_eq_true (decide ((s.s0 : Int) = 2)) with b10 | b10
            · -- decide ((s.s0 : Int) = 2) True
              have p10 := of_decide_eq_true b10
              refine s_gy (y_move rfl) rfl rfl rfl rfl (b' := decide ((s.s0 : Int) = 2)) rfl b10 ?_
              refine s_y (v := .bool (decide ((s.s1 : Int) ≤ (((rnd ((sl p : Nat) : Int)) : Nat) : Int)))) (y_pickT (b := decide ((s.s0 : Int) = 2)) (v := .bool (decide ((s.s1 : Int) ≤ (((rnd ((sl p : Nat) : Int)) : Nat) : Int)))) rfl b10 rfl) rfl ?_
              refine s_y (v := .bool (decide ((s.s1 : Int) ≤ (((rnd ((sl p : Nat) : Int)) : Nat) : Int)))) (y_assign rfl) rfl ?_
              refine wpL_nil ?_
              refine thenS_n ?_
              refine wpS_cond (t := decide ((s.s1 : Int) ≤ (((rnd ((sl p : Nat) : Int)) : Nat) : Int))) rfl (fun b11 => ?_) (fun b11 => ?_)
              · -- decide ((s.s1 : Int) ≤ (((rnd ((sl p : Nat) : Int)) : Nat) : Int)) true
                have p11 := of_decide_eq_true b11
                refine wpS_seq ?_
                refine wpS_lex (by kernel_rfl) (by kernel_rfl) ?_
                refine x_y (v := .pointer (some ⟨b_3, 6, none⟩)) (y_fieldAddr (o' := 6) rfl Try.underlying184 rfl Try.sizeOf3 (by decide) rfl) rfl ?_
                refine x_y (v := .int .i64 ((ofP p).q6)) (y_load1 rfl Try.isAgg3 (own1 .h rfl)) rfl ?_
                refine x_y (v := .agg #[.int .i64 ((ofP p).q0), .int .i64 (bk p), .int .i64 ((((sl p) : Nat) : Int)), .int .i64 ((((rnd ((sl p : Nat) : Int)) : Nat) : Int)), .int .i64 ((((sl p / 2) : Nat) : Int)), .int .i64 (bk p), .int .i64 ((ofP p).q6), .int .i64 ((ofP p).q7), .int .i64 ((ofP p).q8), .int .i64 ((ofP p).q9)]) (y_loadN (vs := [.int .i64 ((ofP p).q0), .int .i64 (bk p), .int .i64 ((((sl p) : Nat) : Int)), .int .i64 ((((rnd ((sl p : Nat) : Int)) : Nat) : Int)), .int .i64 ((((sl p / 2) : Nat) : Int)), .int .i64 (bk p), .int .i64 ((ofP p).q6), .int .i64 ((ofP p).q7), .int .i64 ((ofP p).q8), .int .i64 ((ofP p).q9)]) rfl Try.isAgg184 Try.sizeOf184 (ownN .h rfl)) rfl ?_
                refine x_y (v := .pointer (some ⟨b_2, 1, none⟩)) (y_fieldAddr (o' := 1) rfl Try.underlying144 rfl Try.sizeOf3 (by decide) rfl) rfl ?_
                refine x_y (v := .int .i64 (s.s1)) (y_load1 rfl Try.isAgg3 (own1 (.t .h) rfl)) rfl ?_
                refine x_y (v := .pointer (some ⟨b_2, 2, none⟩)) (y_fieldAddr (o' := 2) rfl Try.underlying144 rfl Try.sizeOf3 (by decide) rfl) rfl ?_
                refine x_y (v := .int .i64 (s.s2)) (y_load1 rfl Try.isAgg3 (own1 (.t .h) rfl)) rfl ?_
                refine x_y (v := .int .i64 (prd (sl p) s.s1 s.s2)) (y_call (args := #[.agg #[.int .i64 ((ofP p).q0), .int .i64 (bk p), .int .i64 ((((sl p) : Nat) : Int)), .int .i64 ((((rnd ((sl p : Nat) : Int)) : Nat) : Int)), .int .i64 ((((sl p / 2) : Nat) : Int)), .int .i64 (bk p), .int .i64 ((ofP p).q6), .int .i64 ((ofP p).q7), .int .i64 ((ofP p).q8), .int .i64 ((ofP p).q9)], .int .i64 (s.s1), .int .i64 (s.s2)]) (v := .int .i64 (prd (sl p) s.s1 s.s2)) Try.call205 (ev3 rfl rfl rfl) (fun w hs => paired_c ((ofP p).q0) (bk p) (((rnd ((sl p : Nat) : Int)) : Nat) : Int) (bk p) ((ofP p).q6) ((ofP p).q7) ((ofP p).q8) ((ofP p).q9) (sl p) s.s1 s.s2 (by omega) (by omega) (far_s hok3 (by omega) (by omega)) (by omega) (by omega) (by omega) w)) rfl ?_
                have hpd := prd_bd (w := sl p) (r := s.s1) (s := s.s2) (by omega) (by omega) (by omega) (by omega) (by omega)
                refine x_y (v := .int .i64 (((ofP p).q6) + (prd (sl p) s.s1 s.s2))) (y_add (a := (ofP p).q6) (b := prd (sl p) s.s1 s.s2) (c := ((ofP p).q6) + (prd (sl p) s.s1 s.s2)) rfl rfl (wI rfl (by omega) (by omega))) rfl ?_
                refine x_y (v := .int .i64 (((ofP p).q6) + (prd (sl p) s.s1 s.s2))) (y_assign rfl) rfl ?_
                refine x_nil ?_
                refine thenS_n ?_
                refine wpS_ret ?_
                refine blockS_r ?_
                refine thenS_r ?_
                refine fin1 (M := []) (v := .int .i64 (((ofP p).q6) + (prd (sl p) s.s1 s.s2))) (.inr rfl) (.nil) Try.results128 rfl ?_
                exact fun w' hs => ⟨congrArg (fun z : Int => Ending.returned (.int .i64 z)) (mp_3 (by omega) (by omega) (by omega) (by omega) ).symm, hs⟩
              · -- decide ((s.s1 : Int) ≤ (((rnd ((sl p : Nat) : Int)) : Nat) : Int)) false
                have p11 := of_decide_eq_false b11
                refine wpS_seq ?_
                refine wpS_region ?_
                refine s_y (v := .pointer (some ⟨b_2, 0, none⟩)) (y_fieldAddr (o' := 0) rfl Try.underlying144 rfl Try.sizeOf3 (by decide) rfl) rfl ?_
                refine s_y (v := .int .i64 (s.s0)) (y_load1 rfl Try.isAgg3 (own1 (.t .h) rfl)) rfl ?_
                refine s_y (v := .bool (decide ((s.s0 : Int) = 3))) (y_eql (a := s.s0) (b := 3) rfl rfl rfl) rfl ?_
                refine s_y (v := .bool (decide ((s.s0 : Int) = 3))) (y_move rfl) rfl ?_
                rcases Bool.eq_false_or_eq_true (decide ((s.s0 : Int) = 3)) with b12 | b12
                · -- decide ((s.s0 : Int) = 3) True
                  have p12 := of_decide_eq_true b12
                  refine s_no rfl rfl rfl rfl (b' := decide ((s.s0 : Int) = 3)) rfl b12 ?_
                  refine s_no rfl rfl rfl rfl (b' := decide ((s.s0 : Int) = 3)) rfl b12 ?_
                  refine s_no rfl rfl rfl rfl (b' := decide ((s.s0 : Int) = 3)) rfl b12 ?_
                  refine s_y (v := .bool true) (y_pickT (b := decide ((s.s0 : Int) = 3)) (v := .bool true) rfl b12 rfl) rfl ?_
                  refine s_y (v := .bool true) (y_move rfl) rfl ?_
                  refine s_gy (y_fieldAddr (o' := 1) rfl Try.underlying144 rfl Try.sizeOf3 (by decide) rfl) rfl rfl rfl rfl rfl rfl ?_
                  refine s_gy (y_load1 rfl Try.isAgg3 (own1 (.t .h) rfl)) rfl rfl rfl rfl rfl rfl ?_
                  refine s_gy (y_eql (a := s.s1) (b := 0) rfl rfl rfl) rfl rfl rfl rfl rfl rfl ?_
                  refine s_y (v := .bool (decide ((s.s1 : Int) = 0))) (y_pickT (v := .bool (decide ((s.s1 : Int) = 0))) rfl rfl rfl) rfl ?_
                  refine s_y (v := .bool (decide ((s.s1 : Int) = 0))) (y_assign rfl) rfl ?_
                  refine wpL_nil ?_
                  refine thenS_n ?_
                  refine wpS_cond_F (t := decide ((s.s1 : Int) = 0)) rfl b8 ?_
                  refine wpS_seq ?_
                  refine wpS_region ?_
                  refine s_y (v := .pointer (some ⟨b_2, 0, none⟩)) (y_fieldAddr (o' := 0) rfl Try.underlying144 rfl Try.sizeOf3 (by decide) rfl) rfl ?_
                  refine s_y (v := .int .i64 (s.s0)) (y_load1 rfl Try.isAgg3 (own1 (.t .h) rfl)) rfl ?_
                  refine s_y (v := .bool (decide ((s.s0 : Int) = 5))) (y_eql (a := s.s0) (b := 5) rfl rfl rfl) rfl ?_
                  refine s_y (v := .bool (decide ((s.s0 : Int) = 5))) (y_move rfl) rfl ?_
                  rcases Bool.eq_false_or_eq_true (decide ((s.s0 : Int) = 5)) with b13 | b13
                  · -- decide ((s.s0 : Int) = 5) True
                    have p13 := of_decide_eq_true b13
                    refine s_gy (y_move rfl) rfl rfl rfl rfl (b' := decide ((s.s0 : Int) = 5)) rfl b13 ?_
                    refine s_y (v := .bool (decide ((s.s1 : Int) ≤ (((rnd ((sl p : Nat) : Int)) : Nat) : Int)))) (y_pickT (b := decide ((s.s0 : Int) = 5)) (v := .bool (decide ((s.s1 : Int) ≤ (((rnd ((sl p : Nat) : Int)) : Nat) : Int)))) rfl b13 rfl) rfl ?_
                    refine s_y (v := .bool (decide ((s.s1 : Int) ≤ (((rnd ((sl p : Nat) : Int)) : Nat) : Int)))) (y_assign rfl) rfl ?_
                    refine wpL_nil ?_
                    refine thenS_n ?_
                    refine wpS_cond_F (t := decide ((s.s1 : Int) ≤ (((rnd ((sl p : Nat) : Int)) : Nat) : Int))) rfl b11 ?_
                    refine wpS_skip ?_
                    refine blockS_n ?_
                    refine thenS_n ?_
                    refine wpS_seq ?_
                    refine wpS_region ?_
                    refine s_y (v := .int .i64 (-1)) (y_assign rfl) rfl ?_
                    refine wpL_nil ?_
                    refine thenS_n ?_
                    refine wpS_ret ?_
                    refine fin1 (M := []) (v := .int .i64 (-1)) (.inr rfl) (.nil) Try.results128 rfl ?_
                    exact fun w' hs => ⟨congrArg (fun z : Int => Ending.returned (.int .i64 z)) (mp_6 (by omega) (by omega) (by omega) (by omega) (by omega) (by omega) ).symm, hs⟩
                  · -- decide ((s.s0 : Int) = 5) False
                    have p13 := of_decide_eq_false b13
                    refine s_no rfl rfl rfl rfl (b' := decide ((s.s0 : Int) = 5)) rfl b13 ?_
                    refine s_y (v := .bool false) (y_pickF (b := decide ((s.s0 : Int) = 5)) (v := .bool false) rfl b13 rfl) rfl ?_
                    refine s_y (v := .bool false) (y_assign rfl) rfl ?_
                    refine wpL_nil ?_
                    refine thenS_n ?_
                    refine wpS_cond_f rfl ?_
                    refine wpS_skip ?_
                    refine blockS_n ?_
                    refine thenS_n ?_
                    refine wpS_seq ?_
                    refine wpS_region ?_
                    refine s_y (v := .int .i64 (-1)) (y_assign rfl) rfl ?_
                    refine wpL_nil ?_
                    refine thenS_n ?_
                    refine wpS_ret ?_
                    refine fin1 (M := []) (v := .int .i64 (-1)) (.inr rfl) (.nil) Try.results128 rfl ?_
                    exact fun w' hs => ⟨congrArg (fun z : Int => Ending.returned (.int .i64 z)) (mp_6 (by omega) (by omega) (by omega) (by omega) (by omega) (by omega) ).symm, hs⟩
                · -- decide ((s.s0 : Int) = 3) False
                  have p12 := of_decide_eq_false b12
                  refine s_gy (y_fieldAddr (o' := 0) rfl Try.underlying144 rfl Try.sizeOf3 (by decide) rfl) rfl rfl rfl rfl (b' := decide ((s.s0 : Int) = 3)) rfl b12 ?_
                  refine s_gy (y_load1 rfl Try.isAgg3 (own1 (.t .h) rfl)) rfl rfl rfl rfl (b' := decide ((s.s0 : Int) = 3)) rfl b12 ?_
                  refine s_gy (y_eql (a := s.s0) (b := 4) rfl rfl rfl) rfl rfl rfl rfl (b' := decide ((s.s0 : Int) = 3)) rfl b12 ?_
                  refine s_y (v := .bool (decide ((s.s0 : Int) = 4))) (y_pickF (b := decide ((s.s0 : Int) = 3)) (v := .bool (decide ((s.s0 : Int) = 4))) rfl b12 rfl) rfl ?_
                  refine s_y (v := .bool (decide ((s.s0 : Int) = 4))) (y_move rfl) rfl ?_
                  rcases Bool.eq_false_or_eq_true (decide ((s.s0 : Int) = 4)) with b14 | b14
                  · -- decide ((s.s0 : Int) = 4) True
                    have p14 := of_decide_eq_true b14
                    refine s_gy (y_fieldAddr (o' := 1) rfl Try.underlying144 rfl Try.sizeOf3 (by decide) rfl) rfl rfl rfl rfl (b' := decide ((s.s0 : Int) = 4)) rfl b14 ?_
                    refine s_gy (y_load1 rfl Try.isAgg3 (own1 (.t .h) rfl)) rfl rfl rfl rfl (b' := decide ((s.s0 : Int) = 4)) rfl b14 ?_
                    refine s_gy (y_eql (a := s.s1) (b := 0) rfl rfl rfl) rfl rfl rfl rfl (b' := decide ((s.s0 : Int) = 4)) rfl b14 ?_
                    refine s_y (v := .bool (decide ((s.s1 : Int) = 0))) (y_pickT (b := decide ((s.s0 : Int) = 4)) (v := .bool (decide ((s.s1 : Int) = 0))) rfl b14 rfl) rfl ?_
                    refine s_y (v := .bool (decide ((s.s1 : Int) = 0))) (y_assign rfl) rfl ?_
                    refine wpL_nil ?_
                    refine thenS_n ?_
                    refine wpS_cond_F (t := decide ((s.s1 : Int) = 0)) rfl b8 ?_
                    refine wpS_seq ?_
                    refine wpS_region ?_
                    refine s_y (v := .pointer (some ⟨b_2, 0, none⟩)) (y_fieldAddr (o' := 0) rfl Try.underlying144 rfl Try.sizeOf3 (by decide) rfl) rfl ?_
                    refine s_y (v := .int .i64 (s.s0)) (y_load1 rfl Try.isAgg3 (own1 (.t .h) rfl)) rfl ?_
                    refine s_y (v := .bool (decide ((s.s0 : Int) = 5))) (y_eql (a := s.s0) (b := 5) rfl rfl rfl) rfl ?_
                    refine s_y (v := .bool (decide ((s.s0 : Int) = 5))) (y_move rfl) rfl ?_
                    rcases Bool.eq_false_or_eq_true (decide ((s.s0 : Int) = 5)) with b15 | b15
                    · -- decide ((s.s0 : Int) = 5) True
                      have p15 := of_decide_eq_true b15
                      refine s_gy (y_move rfl) rfl rfl rfl rfl (b' := decide ((s.s0 : Int) = 5)) rfl b15 ?_
                      refine s_y (v := .bool (decide ((s.s1 : Int) ≤ (((rnd ((sl p : Nat) : Int)) : Nat) : Int)))) (y_pickT (b := decide ((s.s0 : Int) = 5)) (v := .bool (decide ((s.s1 : Int) ≤ (((rnd ((sl p : Nat) : Int)) : Nat) : Int)))) rfl b15 rfl) rfl ?_
                      refine s_y (v := .bool (decide ((s.s1 : Int) ≤ (((rnd ((sl p : Nat) : Int)) : Nat) : Int)))) (y_assign rfl) rfl ?_
                      refine wpL_nil ?_
                      refine thenS_n ?_
                      refine wpS_cond_F (t := decide ((s.s1 : Int) ≤ (((rnd ((sl p : Nat) : Int)) : Nat) : Int))) rfl b11 ?_
                      refine wpS_skip ?_
                      refine blockS_n ?_
                      refine thenS_n ?_
                      refine wpS_seq ?_
                      refine wpS_region ?_
                      refine s_y (v := .int .i64 (-1)) (y_assign rfl) rfl ?_
                      refine wpL_nil ?_
                      refine thenS_n ?_
                      refine wpS_ret ?_
                      refine fin1 (M := []) (v := .int .i64 (-1)) (.inr rfl) (.nil) Try.results128 rfl ?_
                      exact fun w' hs => ⟨congrArg (fun z : Int => Ending.returned (.int .i64 z)) (mp_6 (by omega) (by omega) (by omega) (by omega) (by omega) (by omega) ).symm, hs⟩
                    · -- decide ((s.s0 : Int) = 5) False
                      have p15 := of_decide_eq_false b15
                      refine s_no rfl rfl rfl rfl (b' := decide ((s.s0 : Int) = 5)) rfl b15 ?_
                      refine s_y (v := .bool false) (y_pickF (b := decide ((s.s0 : Int) = 5)) (v := .bool false) rfl b15 rfl) rfl ?_
                      refine s_y (v := .bool false) (y_assign rfl) rfl ?_
                      refine wpL_nil ?_
                      refine thenS_n ?_
                      refine wpS_cond_f rfl ?_
                      refine wpS_skip ?_
                      refine blockS_n ?_
                      refine thenS_n ?_
                      refine wpS_seq ?_
                      refine wpS_region ?_
                      refine s_y (v := .int .i64 (-1)) (y_assign rfl) rfl ?_
                      refine wpL_nil ?_
                      refine thenS_n ?_
                      refine wpS_ret ?_
                      refine fin1 (M := []) (v := .int .i64 (-1)) (.inr rfl) (.nil) Try.results128 rfl ?_
                      exact fun w' hs => ⟨congrArg (fun z : Int => Ending.returned (.int .i64 z)) (mp_6 (by omega) (by omega) (by omega) (by omega) (by omega) (by omega) ).symm, hs⟩
                  · -- decide ((s.s0 : Int) = 4) False
                    have p14 := of_decide_eq_false b14
                    refine s_no rfl rfl rfl rfl (b' := decide ((s.s0 : Int) = 4)) rfl b14 ?_
                    refine s_no rfl rfl rfl rfl (b' := decide ((s.s0 : Int) = 4)) rfl b14 ?_
                    refine s_no rfl rfl rfl rfl (b' := decide ((s.s0 : Int) = 4)) rfl b14 ?_
                    refine s_y (v := .bool false) (y_pickF (b := decide ((s.s0 : Int) = 4)) (v := .bool false) rfl b14 rfl) rfl ?_
                    refine s_y (v := .bool false) (y_assign rfl) rfl ?_
                    refine wpL_nil ?_
                    refine thenS_n ?_
                    refine wpS_cond_f rfl ?_
                    refine wpS_seq ?_
                    refine wpS_region ?_
                    refine s_y (v := .pointer (some ⟨b_2, 0, none⟩)) (y_fieldAddr (o' := 0) rfl Try.underlying144 rfl Try.sizeOf3 (by decide) rfl) rfl ?_
                    refine s_y (v := .int .i64 (s.s0)) (y_load1 rfl Try.isAgg3 (own1 (.t .h) rfl)) rfl ?_
                    refine s_y (v := .bool (decide ((s.s0 : Int) = 5))) (y_eql (a := s.s0) (b := 5) rfl rfl rfl) rfl ?_
                    refine s_y (v := .bool (decide ((s.s0 : Int) = 5))) (y_move rfl) rfl ?_
                    rcases Bool.eq_false_or_eq_true (decide ((s.s0 : Int) = 5)) with b16 | b16
                    · -- decide ((s.s0 : Int) = 5) True
                      have p16 := of_decide_eq_true b16
                      refine s_gy (y_move rfl) rfl rfl rfl rfl (b' := decide ((s.s0 : Int) = 5)) rfl b16 ?_
                      refine s_y (v := .bool (decide ((s.s1 : Int) ≤ (((rnd ((sl p : Nat) : Int)) : Nat) : Int)))) (y_pickT (b := decide ((s.s0 : Int) = 5)) (v := .bool (decide ((s.s1 : Int) ≤ (((rnd ((sl p : Nat) : Int)) : Nat) : Int)))) rfl b16 rfl) rfl ?_
                      refine s_y (v := .bool (decide ((s.s1 : Int) ≤ (((rnd ((sl p : Nat) : Int)) : Nat) : Int)))) (y_assign rfl) rfl ?_
                      refine wpL_nil ?_
                      refine thenS_n ?_
                      refine wpS_cond_F (t := decide ((s.s1 : Int) ≤ (((rnd ((sl p : Nat) : Int)) : Nat) : Int))) rfl b11 ?_
                      refine wpS_skip ?_
                      refine blockS_n ?_
                      refine thenS_n ?_
                      refine wpS_seq ?_
                      refine wpS_region ?_
                      refine s_y (v := .int .i64 (-1)) (y_assign rfl) rfl ?_
                      refine wpL_nil ?_
                      refine thenS_n ?_
                      refine wpS_ret ?_
                      refine fin1 (M := []) (v := .int .i64 (-1)) (.inr rfl) (.nil) Try.results128 rfl ?_
                      exact fun w' hs => ⟨congrArg (fun z : Int => Ending.returned (.int .i64 z)) (mp_6 (by omega) (by omega) (by omega) (by omega) (by omega) (by omega) ).symm, hs⟩
                    · -- decide ((s.s0 : Int) = 5) False
                      have p16 := of_decide_eq_false b16
                      refine s_no rfl rfl rfl rfl (b' := decide ((s.s0 : Int) = 5)) rfl b16 ?_
                      refine s_y (v := .bool false) (y_pickF (b := decide ((s.s0 : Int) = 5)) (v := .bool false) rfl b16 rfl) rfl ?_
                      refine s_y (v := .bool false) (y_assign rfl) rfl ?_
                      refine wpL_nil ?_
                      refine thenS_n ?_
                      refine wpS_cond_f rfl ?_
                      refine wpS_skip ?_
                      refine blockS_n ?_
                      refine thenS_n ?_
                      refine wpS_seq ?_
                      refine wpS_region ?_
                      refine s_y (v := .int .i64 (-1)) (y_assign rfl) rfl ?_
                      refine wpL_nil ?_
                      refine thenS_n ?_
                      refine wpS_ret ?_
                      refine fin1 (M := []) (v := .int .i64 (-1)) (.inr rfl) (.nil) Try.results128 rfl ?_
                      exact fun w' hs => ⟨congrArg (fun z : Int => Ending.returned (.int .i64 z)) (mp_6 (by omega) (by omega) (by omega) (by omega) (by omega) (by omega) ).symm, hs⟩
            · -- decide ((s.s0 : Int) = 2) False
              have p10 := of_decide_eq_false b10
              refine s_no rfl rfl rfl rfl (b' := decide ((s.s0 : Int) = 2)) rfl b10 ?_
              refine s_y (v := .bool false) (y_pickF (b := decide ((s.s0 : Int) = 2)) (v := .bool false) rfl b10 rfl) rfl ?_
              refine s_y (v := .bool false) (y_assign rfl) rfl ?_
              refine wpL_nil ?_
              refine thenS_n ?_
              refine wpS_cond_f rfl ?_
              refine wpS_seq ?_
              refine wpS_region ?_
              refine s_y (v := .pointer (some ⟨b_2, 0, none⟩)) (y_fieldAddr (o' := 0) rfl Try.underlying144 rfl Try.sizeOf3 (by decide) rfl) rfl ?_
              refine s_y (v := .int .i64 (s.s0)) (y_load1 rfl Try.isAgg3 (own1 (.t .h) rfl)) rfl ?_
              refine s_y (v := .bool (decide ((s.s0 : Int) = 3))) (y_eql (a := s.s0) (b := 3) rfl rfl rfl) rfl ?_
              refine s_y (v := .bool (decide ((s.s0 : Int) = 3))) (y_move rfl) rfl ?_
              rcases Bool.eq_false_or_eq_true (decide ((s.s0 : Int) = 3)) with b17 | b17
              · -- decide ((s.s0 : Int) = 3) True
                have p17 := of_decide_eq_true b17
                refine s_no rfl rfl rfl rfl (b' := decide ((s.s0 : Int) = 3)) rfl b17 ?_
                refine s_no rfl rfl rfl rfl (b' := decide ((s.s0 : Int) = 3)) rfl b17 ?_
                refine s_no rfl rfl rfl rfl (b' := decide ((s.s0 : Int) = 3)) rfl b17 ?_
                refine s_y (v := .bool true) (y_pickT (b := decide ((s.s0 : Int) = 3)) (v := .bool true) rfl b17 rfl) rfl ?_
                refine s_y (v := .bool true) (y_move rfl) rfl ?_
                refine s_gy (y_fieldAddr (o' := 1) rfl Try.underlying144 rfl Try.sizeOf3 (by decide) rfl) rfl rfl rfl rfl rfl rfl ?_
                refine s_gy (y_load1 rfl Try.isAgg3 (own1 (.t .h) rfl)) rfl rfl rfl rfl rfl rfl ?_
                refine s_gy (y_eql (a := s.s1) (b := 0) rfl rfl rfl) rfl rfl rfl rfl rfl rfl ?_
                refine s_y (v := .bool (decide ((s.s1 : Int) = 0))) (y_pickT (v := .bool (decide ((s.s1 : Int) = 0))) rfl rfl rfl) rfl ?_
                refine s_y (v := .bool (decide ((s.s1 : Int) = 0))) (y_assign rfl) rfl ?_
                refine wpL_nil ?_
                refine thenS_n ?_
                refine wpS_cond_F (t := decide ((s.s1 : Int) = 0)) rfl b8 ?_
                refine wpS_seq ?_
                refine wpS_region ?_
                refine s_y (v := .pointer (some ⟨b_2, 0, none⟩)) (y_fieldAddr (o' := 0) rfl Try.underlying144 rfl Try.sizeOf3 (by decide) rfl) rfl ?_
                refine s_y (v := .int .i64 (s.s0)) (y_load1 rfl Try.isAgg3 (own1 (.t .h) rfl)) rfl ?_
                refine s_y (v := .bool (decide ((s.s0 : Int) = 5))) (y_eql (a := s.s0) (b := 5) rfl rfl rfl) rfl ?_
                refine s_y (v := .bool (decide ((s.s0 : Int) = 5))) (y_move rfl) rfl ?_
                rcases Bool.eq_false_or_eq_true (decide ((s.s0 : Int) = 5)) with b18 | b18
                · -- decide ((s.s0 : Int) = 5) True
                  have p18 := of_decide_eq_true b18
                  refine s_gy (y_move rfl) rfl rfl rfl rfl (b' := decide ((s.s0 : Int) = 5)) rfl b18 ?_
                  refine s_y (v := .bool (decide ((s.s1 : Int) ≤ (((rnd ((sl p : Nat) : Int)) : Nat) : Int)))) (y_pickT (b := decide ((s.s0 : Int) = 5)) (v := .bool (decide ((s.s1 : Int) ≤ (((rnd ((sl p : Nat) : Int)) : Nat) : Int)))) rfl b18 rfl) rfl ?_
                  refine s_y (v := .bool (decide ((s.s1 : Int) ≤ (((rnd ((sl p : Nat) : Int)) : Nat) : Int)))) (y_assign rfl) rfl ?_
                  refine wpL_nil ?_
                  refine thenS_n ?_
                  refine wpS_cond (t := decide ((s.s1 : Int) ≤ (((rnd ((sl p : Nat) : Int)) : Nat) : Int))) rfl (fun b19 => ?_) (fun b19 => ?_)
                  · -- decide ((s.s1 : Int) ≤ (((rnd ((sl p : Nat) : Int)) : Nat) : Int)) true
                    have p19 := of_decide_eq_true b19
                    refine wpS_seq ?_
                    refine wpS_lex (by kernel_rfl) (by kernel_rfl) ?_
                    refine x_y (v := .pointer (some ⟨b_3, 8, none⟩)) (y_fieldAddr (o' := 8) rfl Try.underlying184 rfl Try.sizeOf3 (by decide) rfl) rfl ?_
                    refine x_y (v := .int .i64 ((ofP p).q8)) (y_load1 rfl Try.isAgg3 (own1 .h rfl)) rfl ?_
                    refine x_y (v := .agg #[.int .i64 ((ofP p).q0), .int .i64 (bk p), .int .i64 ((((sl p) : Nat) : Int)), .int .i64 ((((rnd ((sl p : Nat) : Int)) : Nat) : Int)), .int .i64 ((((sl p / 2) : Nat) : Int)), .int .i64 (bk p), .int .i64 ((ofP p).q6), .int .i64 ((ofP p).q7), .int .i64 ((ofP p).q8), .int .i64 ((ofP p).q9)]) (y_loadN (vs := [.int .i64 ((ofP p).q0), .int .i64 (bk p), .int .i64 ((((sl p) : Nat) : Int)), .int .i64 ((((rnd ((sl p : Nat) : Int)) : Nat) : Int)), .int .i64 ((((sl p / 2) : Nat) : Int)), .int .i64 (bk p), .int .i64 ((ofP p).q6), .int .i64 ((ofP p).q7), .int .i64 ((ofP p).q8), .int .i64 ((ofP p).q9)]) rfl Try.isAgg184 Try.sizeOf184 (ownN .h rfl)) rfl ?_
                    refine x_y (v := .pointer (some ⟨b_2, 1, none⟩)) (y_fieldAddr (o' := 1) rfl Try.underlying144 rfl Try.sizeOf3 (by decide) rfl) rfl ?_
                    refine x_y (v := .int .i64 (s.s1)) (y_load1 rfl Try.isAgg3 (own1 (.t .h) rfl)) rfl ?_
                    refine x_y (v := .pointer (some ⟨b_2, 2, none⟩)) (y_fieldAddr (o' := 2) rfl Try.underlying144 rfl Try.sizeOf3 (by decide) rfl) rfl ?_
                    refine x_y (v := .int .i64 (s.s2)) (y_load1 rfl Try.isAgg3 (own1 (.t .h) rfl)) rfl ?_
                    refine x_y (v := .int .i64 (prd (sl p) s.s1 s.s2)) (y_call (args := #[.agg #[.int .i64 ((ofP p).q0), .int .i64 (bk p), .int .i64 ((((sl p) : Nat) : Int)), .int .i64 ((((rnd ((sl p : Nat) : Int)) : Nat) : Int)), .int .i64 ((((sl p / 2) : Nat) : Int)), .int .i64 (bk p), .int .i64 ((ofP p).q6), .int .i64 ((ofP p).q7), .int .i64 ((ofP p).q8), .int .i64 ((ofP p).q9)], .int .i64 (s.s1), .int .i64 (s.s2)]) (v := .int .i64 (prd (sl p) s.s1 s.s2)) Try.call205 (ev3 rfl rfl rfl) (fun w hs => paired_c ((ofP p).q0) (bk p) (((rnd ((sl p : Nat) : Int)) : Nat) : Int) (bk p) ((ofP p).q6) ((ofP p).q7) ((ofP p).q8) ((ofP p).q9) (sl p) s.s1 s.s2 (by omega) (by omega) (far_s hok3 (by omega) (by omega)) (by omega) (by omega) (by omega) w)) rfl ?_
                    have hpd := prd_bd (w := sl p) (r := s.s1) (s := s.s2) (by omega) (by omega) (by omega) (by omega) (by omega)
                    refine x_y (v := .int .i64 (((ofP p).q8) + (prd (sl p) s.s1 s.s2))) (y_add (a := (ofP p).q8) (b := prd (sl p) s.s1 s.s2) (c := ((ofP p).q8) + (prd (sl p) s.s1 s.s2)) rfl rfl (wI rfl (by omega) (by omega))) rfl ?_
                    refine x_y (v := .int .i64 (((ofP p).q8) + (prd (sl p) s.s1 s.s2))) (y_assign rfl) rfl ?_
                    refine x_nil ?_
                    refine thenS_n ?_
                    refine wpS_ret ?_
                    refine blockS_r ?_
                    refine thenS_r ?_
                    refine fin1 (M := []) (v := .int .i64 (((ofP p).q8) + (prd (sl p) s.s1 s.s2))) (.inr rfl) (.nil) Try.results128 rfl ?_
                    exact fun w' hs => ⟨congrArg (fun z : Int => Ending.returned (.int .i64 z)) (mp_5 (by omega) (by omega) (by omega) (by omega) (by omega) (by omega) ).symm, hs⟩
                  · -- decide ((s.s1 : Int) ≤ (((rnd ((sl p : Nat) : Int)) : Nat) : Int)) false
                    have p19 := of_decide_eq_false b19
                    refine wpS_skip ?_
                    refine blockS_n ?_
                    refine thenS_n ?_
                    refine wpS_seq ?_
                    refine wpS_region ?_
                    refine s_y (v := .int .i64 (-1)) (y_assign rfl) rfl ?_
                    refine wpL_nil ?_
                    refine thenS_n ?_
                    refine wpS_ret ?_
                    refine fin1 (M := []) (v := .int .i64 (-1)) (.inr rfl) (.nil) Try.results128 rfl ?_
                    exact fun w' hs => ⟨congrArg (fun z : Int => Ending.returned (.int .i64 z)) (mp_6 (by omega) (by omega) (by omega) (by omega) (by omega) (by omega) ).symm, hs⟩
                · -- decide ((s.s0 : Int) = 5) False
                  have p18 := of_decide_eq_false b18
                  refine s_no rfl rfl rfl rfl (b' := decide ((s.s0 : Int) = 5)) rfl b18 ?_
                  refine s_y (v := .bool false) (y_pickF (b := decide ((s.s0 : Int) = 5)) (v := .bool false) rfl b18 rfl) rfl ?_
                  refine s_y (v := .bool false) (y_assign rfl) rfl ?_
                  refine wpL_nil ?_
                  refine thenS_n ?_
                  refine wpS_cond_f rfl ?_
                  refine wpS_skip ?_
                  refine blockS_n ?_
                  refine thenS_n ?_
                  refine wpS_seq ?_
                  refine wpS_region ?_
                  refine s_y (v := .int .i64 (-1)) (y_assign rfl) rfl ?_
                  refine wpL_nil ?_
                  refine thenS_n ?_
                  refine wpS_ret ?_
                  refine fin1 (M := []) (v := .int .i64 (-1)) (.inr rfl) (.nil) Try.results128 rfl ?_
                  exact fun w' hs => ⟨congrArg (fun z : Int => Ending.returned (.int .i64 z)) (mp_6 (by omega) (by omega) (by omega) (by omega) (by omega) (by omega) ).symm, hs⟩
              · -- decide ((s.s0 : Int) = 3) False
                have p17 := of_decide_eq_false b17
                refine s_gy (y_fieldAddr (o' := 0) rfl Try.underlying144 rfl Try.sizeOf3 (by decide) rfl) rfl rfl rfl rfl (b' := decide ((s.s0 : Int) = 3)) rfl b17 ?_
                refine s_gy (y_load1 rfl Try.isAgg3 (own1 (.t .h) rfl)) rfl rfl rfl rfl (b' := decide ((s.s0 : Int) = 3)) rfl b17 ?_
                refine s_gy (y_eql (a := s.s0) (b := 4) rfl rfl rfl) rfl rfl rfl rfl (b' := decide ((s.s0 : Int) = 3)) rfl b17 ?_
                refine s_y (v := .bool (decide ((s.s0 : Int) = 4))) (y_pickF (b := decide ((s.s0 : Int) = 3)) (v := .bool (decide ((s.s0 : Int) = 4))) rfl b17 rfl) rfl ?_
                refine s_y (v := .bool (decide ((s.s0 : Int) = 4))) (y_move rfl) rfl ?_
                rcases Bool.eq_false_or_eq_true (decide ((s.s0 : Int) = 4)) with b20 | b20
                · -- decide ((s.s0 : Int) = 4) True
                  have p20 := of_decide_eq_true b20
                  refine s_gy (y_fieldAddr (o' := 1) rfl Try.underlying144 rfl Try.sizeOf3 (by decide) rfl) rfl rfl rfl rfl (b' := decide ((s.s0 : Int) = 4)) rfl b20 ?_
                  refine s_gy (y_load1 rfl Try.isAgg3 (own1 (.t .h) rfl)) rfl rfl rfl rfl (b' := decide ((s.s0 : Int) = 4)) rfl b20 ?_
                  refine s_gy (y_eql (a := s.s1) (b := 0) rfl rfl rfl) rfl rfl rfl rfl (b' := decide ((s.s0 : Int) = 4)) rfl b20 ?_
                  refine s_y (v := .bool (decide ((s.s1 : Int) = 0))) (y_pickT (b := decide ((s.s0 : Int) = 4)) (v := .bool (decide ((s.s1 : Int) = 0))) rfl b20 rfl) rfl ?_
                  refine s_y (v := .bool (decide ((s.s1 : Int) = 0))) (y_assign rfl) rfl ?_
                  refine wpL_nil ?_
                  refine thenS_n ?_
                  refine wpS_cond_F (t := decide ((s.s1 : Int) = 0)) rfl b8 ?_
                  refine wpS_seq ?_
                  refine wpS_region ?_
                  refine s_y (v := .pointer (some ⟨b_2, 0, none⟩)) (y_fieldAddr (o' := 0) rfl Try.underlying144 rfl Try.sizeOf3 (by decide) rfl) rfl ?_
                  refine s_y (v := .int .i64 (s.s0)) (y_load1 rfl Try.isAgg3 (own1 (.t .h) rfl)) rfl ?_
                  refine s_y (v := .bool (decide ((s.s0 : Int) = 5))) (y_eql (a := s.s0) (b := 5) rfl rfl rfl) rfl ?_
                  refine s_y (v := .bool (decide ((s.s0 : Int) = 5))) (y_move rfl) rfl ?_
                  rcases Bool.eq_false_or_eq_true (decide ((s.s0 : Int) = 5)) with b21 | b21
                  · -- decide ((s.s0 : Int) = 5) True
                    have p21 := of_decide_eq_true b21
                    refine s_gy (y_move rfl) rfl rfl rfl rfl (b' := decide ((s.s0 : Int) = 5)) rfl b21 ?_
                    refine s_y (v := .bool (decide ((s.s1 : Int) ≤ (((rnd ((sl p : Nat) : Int)) : Nat) : Int)))) (y_pickT (b := decide ((s.s0 : Int) = 5)) (v := .bool (decide ((s.s1 : Int) ≤ (((rnd ((sl p : Nat) : Int)) : Nat) : Int)))) rfl b21 rfl) rfl ?_
                    refine s_y (v := .bool (decide ((s.s1 : Int) ≤ (((rnd ((sl p : Nat) : Int)) : Nat) : Int)))) (y_assign rfl) rfl ?_
                    refine wpL_nil ?_
                    refine thenS_n ?_
                    refine wpS_cond (t := decide ((s.s1 : Int) ≤ (((rnd ((sl p : Nat) : Int)) : Nat) : Int))) rfl (fun b22 => ?_) (fun b22 => ?_)
                    · -- decide ((s.s1 : Int) ≤ (((rnd ((sl p : Nat) : Int)) : Nat) : Int)) true
                      have p22 := of_decide_eq_true b22
                      refine wpS_seq ?_
                      refine wpS_lex (by kernel_rfl) (by kernel_rfl) ?_
                      refine x_y (v := .pointer (some ⟨b_3, 8, none⟩)) (y_fieldAddr (o' := 8) rfl Try.underlying184 rfl Try.sizeOf3 (by decide) rfl) rfl ?_
                      refine x_y (v := .int .i64 ((ofP p).q8)) (y_load1 rfl Try.isAgg3 (own1 .h rfl)) rfl ?_
                      refine x_y (v := .agg #[.int .i64 ((ofP p).q0), .int .i64 (bk p), .int .i64 ((((sl p) : Nat) : Int)), .int .i64 ((((rnd ((sl p : Nat) : Int)) : Nat) : Int)), .int .i64 ((((sl p / 2) : Nat) : Int)), .int .i64 (bk p), .int .i64 ((ofP p).q6), .int .i64 ((ofP p).q7), .int .i64 ((ofP p).q8), .int .i64 ((ofP p).q9)]) (y_loadN (vs := [.int .i64 ((ofP p).q0), .int .i64 (bk p), .int .i64 ((((sl p) : Nat) : Int)), .int .i64 ((((rnd ((sl p : Nat) : Int)) : Nat) : Int)), .int .i64 ((((sl p / 2) : Nat) : Int)), .int .i64 (bk p), .int .i64 ((ofP p).q6), .int .i64 ((ofP p).q7), .int .i64 ((ofP p).q8), .int .i64 ((ofP p).q9)]) rfl Try.isAgg184 Try.sizeOf184 (ownN .h rfl)) rfl ?_
                      refine x_y (v := .pointer (some ⟨b_2, 1, none⟩)) (y_fieldAddr (o' := 1) rfl Try.underlying144 rfl Try.sizeOf3 (by decide) rfl) rfl ?_
                      refine x_y (v := .int .i64 (s.s1)) (y_load1 rfl Try.isAgg3 (own1 (.t .h) rfl)) rfl ?_
                      refine x_y (v := .pointer (some ⟨b_2, 2, none⟩)) (y_fieldAddr (o' := 2) rfl Try.underlying144 rfl Try.sizeOf3 (by decide) rfl) rfl ?_
                      refine x_y (v := .int .i64 (s.s2)) (y_load1 rfl Try.isAgg3 (own1 (.t .h) rfl)) rfl ?_
                      refine x_y (v := .int .i64 (prd (sl p) s.s1 s.s2)) (y_call (args := #[.agg #[.int .i64 ((ofP p).q0), .int .i64 (bk p), .int .i64 ((((sl p) : Nat) : Int)), .int .i64 ((((rnd ((sl p : Nat) : Int)) : Nat) : Int)), .int .i64 ((((sl p / 2) : Nat) : Int)), .int .i64 (bk p), .int .i64 ((ofP p).q6), .int .i64 ((ofP p).q7), .int .i64 ((ofP p).q8), .int .i64 ((ofP p).q9)], .int .i64 (s.s1), .int .i64 (s.s2)]) (v := .int .i64 (prd (sl p) s.s1 s.s2)) Try.call205 (ev3 rfl rfl rfl) (fun w hs => paired_c ((ofP p).q0) (bk p) (((rnd ((sl p : Nat) : Int)) : Nat) : Int) (bk p) ((ofP p).q6) ((ofP p).q7) ((ofP p).q8) ((ofP p).q9) (sl p) s.s1 s.s2 (by omega) (by omega) (far_s hok3 (by omega) (by omega)) (by omega) (by omega) (by omega) w)) rfl ?_
                      have hpd := prd_bd (w := sl p) (r := s.s1) (s := s.s2) (by omega) (by omega) (by omega) (by omega) (by omega)
                      refine x_y (v := .int .i64 (((ofP p).q8) + (prd (sl p) s.s1 s.s2))) (y_add (a := (ofP p).q8) (b := prd (sl p) s.s1 s.s2) (c := ((ofP p).q8) + (prd (sl p) s.s1 s.s2)) rfl rfl (wI rfl (by omega) (by omega))) rfl ?_
                      refine x_y (v := .int .i64 (((ofP p).q8) + (prd (sl p) s.s1 s.s2))) (y_assign rfl) rfl ?_
                      refine x_nil ?_
                      refine thenS_n ?_
                      refine wpS_ret ?_
                      refine blockS_r ?_
                      refine thenS_r ?_
                      refine fin1 (M := []) (v := .int .i64 (((ofP p).q8) + (prd (sl p) s.s1 s.s2))) (.inr rfl) (.nil) Try.results128 rfl ?_
                      exact fun w' hs => ⟨congrArg (fun z : Int => Ending.returned (.int .i64 z)) (mp_5 (by omega) (by omega) (by omega) (by omega) (by omega) (by omega) ).symm, hs⟩
                    · -- decide ((s.s1 : Int) ≤ (((rnd ((sl p : Nat) : Int)) : Nat) : Int)) false
                      have p22 := of_decide_eq_false b22
                      refine wpS_skip ?_
                      refine blockS_n ?_
                      refine thenS_n ?_
                      refine wpS_seq ?_
                      refine wpS_region ?_
                      refine s_y (v := .int .i64 (-1)) (y_assign rfl) rfl ?_
                      refine wpL_nil ?_
                      refine thenS_n ?_
                      refine wpS_ret ?_
                      refine fin1 (M := []) (v := .int .i64 (-1)) (.inr rfl) (.nil) Try.results128 rfl ?_
                      exact fun w' hs => ⟨congrArg (fun z : Int => Ending.returned (.int .i64 z)) (mp_6 (by omega) (by omega) (by omega) (by omega) (by omega) (by omega) ).symm, hs⟩
                  · -- decide ((s.s0 : Int) = 5) False
                    have p21 := of_decide_eq_false b21
                    refine s_no rfl rfl rfl rfl (b' := decide ((s.s0 : Int) = 5)) rfl b21 ?_
                    refine s_y (v := .bool false) (y_pickF (b := decide ((s.s0 : Int) = 5)) (v := .bool false) rfl b21 rfl) rfl ?_
                    refine s_y (v := .bool false) (y_assign rfl) rfl ?_
                    refine wpL_nil ?_
                    refine thenS_n ?_
                    refine wpS_cond_f rfl ?_
                    refine wpS_skip ?_
                    refine blockS_n ?_
                    refine thenS_n ?_
                    refine wpS_seq ?_
                    refine wpS_region ?_
                    refine s_y (v := .int .i64 (-1)) (y_assign rfl) rfl ?_
                    refine wpL_nil ?_
                    refine thenS_n ?_
                    refine wpS_ret ?_
                    refine fin1 (M := []) (v := .int .i64 (-1)) (.inr rfl) (.nil) Try.results128 rfl ?_
                    exact fun w' hs => ⟨congrArg (fun z : Int => Ending.returned (.int .i64 z)) (mp_6 (by omega) (by omega) (by omega) (by omega) (by omega) (by omega) ).symm, hs⟩
                · -- decide ((s.s0 : Int) = 4) False
                  have p20 := of_decide_eq_false b20
                  refine s_no rfl rfl rfl rfl (b' := decide ((s.s0 : Int) = 4)) rfl b20 ?_
                  refine s_no rfl rfl rfl rfl (b' := decide ((s.s0 : Int) = 4)) rfl b20 ?_
                  refine s_no rfl rfl rfl rfl (b' := decide ((s.s0 : Int) = 4)) rfl b20 ?_
                  refine s_y (v := .bool false) (y_pickF (b := decide ((s.s0 : Int) = 4)) (v := .bool false) rfl b20 rfl) rfl ?_
                  refine s_y (v := .bool false) (y_assign rfl) rfl ?_
                  refine wpL_nil ?_
                  refine thenS_n ?_
                  refine wpS_cond_f rfl ?_
                  refine wpS_seq ?_
                  refine wpS_region ?_
                  refine s_y (v := .pointer (some ⟨b_2, 0, none⟩)) (y_fieldAddr (o' := 0) rfl Try.underlying144 rfl Try.sizeOf3 (by decide) rfl) rfl ?_
                  refine s_y (v := .int .i64 (s.s0)) (y_load1 rfl Try.isAgg3 (own1 (.t .h) rfl)) rfl ?_
                  refine s_y (v := .bool (decide ((s.s0 : Int) = 5))) (y_eql (a := s.s0) (b := 5) rfl rfl rfl) rfl ?_
                  refine s_y (v := .bool (decide ((s.s0 : Int) = 5))) (y_move rfl) rfl ?_
                  rcases Bool.eq_false_or_eq_true (decide ((s.s0 : Int) = 5)) with b23 | b23
                  · -- decide ((s.s0 : Int) = 5) True
                    have p23 := of_decide_eq_true b23
                    refine s_gy (y_move rfl) rfl rfl rfl rfl (b' := decide ((s.s0 : Int) = 5)) rfl b23 ?_
                    refine s_y (v := .bool (decide ((s.s1 : Int) ≤ (((rnd ((sl p : Nat) : Int)) : Nat) : Int)))) (y_pickT (b := decide ((s.s0 : Int) = 5)) (v := .bool (decide ((s.s1 : Int) ≤ (((rnd ((sl p : Nat) : Int)) : Nat) : Int)))) rfl b23 rfl) rfl ?_
                    refine s_y (v := .bool (decide ((s.s1 : Int) ≤ (((rnd ((sl p : Nat) : Int)) : Nat) : Int)))) (y_assign rfl) rfl ?_
                    refine wpL_nil ?_
                    refine thenS_n ?_
                    refine wpS_cond (t := decide ((s.s1 : Int) ≤ (((rnd ((sl p : Nat) : Int)) : Nat) : Int))) rfl (fun b24 => ?_) (fun b24 => ?_)
                    · -- decide ((s.s1 : Int) ≤ (((rnd ((sl p : Nat) : Int)) : Nat) : Int)) true
                      have p24 := of_decide_eq_true b24
                      refine wpS_seq ?_
                      refine wpS_lex (by kernel_rfl) (by kernel_rfl) ?_
                      refine x_y (v := .pointer (some ⟨b_3, 8, none⟩)) (y_fieldAddr (o' := 8) rfl Try.underlying184 rfl Try.sizeOf3 (by decide) rfl) rfl ?_
                      refine x_y (v := .int .i64 ((ofP p).q8)) (y_load1 rfl Try.isAgg3 (own1 .h rfl)) rfl ?_
                      refine x_y (v := .agg #[.int .i64 ((ofP p).q0), .int .i64 (bk p), .int .i64 ((((sl p) : Nat) : Int)), .int .i64 ((((rnd ((sl p : Nat) : Int)) : Nat) : Int)), .int .i64 ((((sl p / 2) : Nat) : Int)), .int .i64 (bk p), .int .i64 ((ofP p).q6), .int .i64 ((ofP p).q7), .int .i64 ((ofP p).q8), .int .i64 ((ofP p).q9)]) (y_loadN (vs := [.int .i64 ((ofP p).q0), .int .i64 (bk p), .int .i64 ((((sl p) : Nat) : Int)), .int .i64 ((((rnd ((sl p : Nat) : Int)) : Nat) : Int)), .int .i64 ((((sl p / 2) : Nat) : Int)), .int .i64 (bk p), .int .i64 ((ofP p).q6), .int .i64 ((ofP p).q7), .int .i64 ((ofP p).q8), .int .i64 ((ofP p).q9)]) rfl Try.isAgg184 Try.sizeOf184 (ownN .h rfl)) rfl ?_
                      refine x_y (v := .pointer (some ⟨b_2, 1, none⟩)) (y_fieldAddr (o' := 1) rfl Try.underlying144 rfl Try.sizeOf3 (by decide) rfl) rfl ?_
                      refine x_y (v := .int .i64 (s.s1)) (y_load1 rfl Try.isAgg3 (own1 (.t .h) rfl)) rfl ?_
                      refine x_y (v := .pointer (some ⟨b_2, 2, none⟩)) (y_fieldAddr (o' := 2) rfl Try.underlying144 rfl Try.sizeOf3 (by decide) rfl) rfl ?_
                      refine x_y (v := .int .i64 (s.s2)) (y_load1 rfl Try.isAgg3 (own1 (.t .h) rfl)) rfl ?_
                      refine x_y (v := .int .i64 (prd (sl p) s.s1 s.s2)) (y_call (args := #[.agg #[.int .i64 ((ofP p).q0), .int .i64 (bk p), .int .i64 ((((sl p) : Nat) : Int)), .int .i64 ((((rnd ((sl p : Nat) : Int)) : Nat) : Int)), .int .i64 ((((sl p / 2) : Nat) : Int)), .int .i64 (bk p), .int .i64 ((ofP p).q6), .int .i64 ((ofP p).q7), .int .i64 ((ofP p).q8), .int .i64 ((ofP p).q9)], .int .i64 (s.s1), .int .i64 (s.s2)]) (v := .int .i64 (prd (sl p) s.s1 s.s2)) Try.call205 (ev3 rfl rfl rfl) (fun w hs => paired_c ((ofP p).q0) (bk p) (((rnd ((sl p : Nat) : Int)) : Nat) : Int) (bk p) ((ofP p).q6) ((ofP p).q7) ((ofP p).q8) ((ofP p).q9) (sl p) s.s1 s.s2 (by omega) (by omega) (far_s hok3 (by omega) (by omega)) (by omega) (by omega) (by omega) w)) rfl ?_
                      have hpd := prd_bd (w := sl p) (r := s.s1) (s := s.s2) (by omega) (by omega) (by omega) (by omega) (by omega)
                      refine x_y (v := .int .i64 (((ofP p).q8) + (prd (sl p) s.s1 s.s2))) (y_add (a := (ofP p).q8) (b := prd (sl p) s.s1 s.s2) (c := ((ofP p).q8) + (prd (sl p) s.s1 s.s2)) rfl rfl (wI rfl (by omega) (by omega))) rfl ?_
                      refine x_y (v := .int .i64 (((ofP p).q8) + (prd (sl p) s.s1 s.s2))) (y_assign rfl) rfl ?_
                      refine x_nil ?_
                      refine thenS_n ?_
                      refine wpS_ret ?_
                      refine blockS_r ?_
                      refine thenS_r ?_
                      refine fin1 (M := []) (v := .int .i64 (((ofP p).q8) + (prd (sl p) s.s1 s.s2))) (.inr rfl) (.nil) Try.results128 rfl ?_
                      exact fun w' hs => ⟨congrArg (fun z : Int => Ending.returned (.int .i64 z)) (mp_5 (by omega) (by omega) (by omega) (by omega) (by omega) (by omega) ).symm, hs⟩
                    · -- decide ((s.s1 : Int) ≤ (((rnd ((sl p : Nat) : Int)) : Nat) : Int)) false
                      have p24 := of_decide_eq_false b24
                      refine wpS_skip ?_
                      refine blockS_n ?_
                      refine thenS_n ?_
                      refine wpS_seq ?_
                      refine wpS_region ?_
                      refine s_y (v := .int .i64 (-1)) (y_assign rfl) rfl ?_
                      refine wpL_nil ?_
                      refine thenS_n ?_
                      refine wpS_ret ?_
                      refine fin1 (M := []) (v := .int .i64 (-1)) (.inr rfl) (.nil) Try.results128 rfl ?_
                      exact fun w' hs => ⟨congrArg (fun z : Int => Ending.returned (.int .i64 z)) (mp_6 (by omega) (by omega) (by omega) (by omega) (by omega) (by omega) ).symm, hs⟩
                  · -- decide ((s.s0 : Int) = 5) False
                    have p23 := of_decide_eq_false b23
                    refine s_no rfl rfl rfl rfl (b' := decide ((s.s0 : Int) = 5)) rfl b23 ?_
                    refine s_y (v := .bool false) (y_pickF (b := decide ((s.s0 : Int) = 5)) (v := .bool false) rfl b23 rfl) rfl ?_
                    refine s_y (v := .bool false) (y_assign rfl) rfl ?_
                    refine wpL_nil ?_
                    refine thenS_n ?_
                    refine wpS_cond_f rfl ?_
                    refine wpS_skip ?_
                    refine blockS_n ?_
                    refine thenS_n ?_
                    refine wpS_seq ?_
                    refine wpS_region ?_
                    refine s_y (v := .int .i64 (-1)) (y_assign rfl) rfl ?_
                    refine wpL_nil ?_
                    refine thenS_n ?_
                    refine wpS_ret ?_
                    refine fin1 (M := []) (v := .int .i64 (-1)) (.inr rfl) (.nil) Try.results128 rfl ?_
                    exact fun w' hs => ⟨congrArg (fun z : Int => Ending.returned (.int .i64 z)) (mp_6 (by omega) (by omega) (by omega) (by omega) (by omega) (by omega) ).symm, hs⟩
        · -- decide ((s.s0 : Int) = 1) False
          have p7 := of_decide_eq_false b7
          refine s_no rfl rfl rfl rfl (b' := decide ((s.s0 : Int) = 1)) rfl b7 ?_
          refine s_no rfl rfl rfl rfl (b' := decide ((s.s0 : Int) = 1)) rfl b7 ?_
          refine s_no rfl rfl rfl rfl (b' := decide ((s.s0 : Int) = 1)) rfl b7 ?_
          refine s_y (v := .bool false) (y_pickF (b := decide ((s.s0 : Int) = 1)) (v := .bool false) rfl b7 rfl) rfl ?_
          refine s_y (v := .bool false) (y_move rfl) rfl ?_
          refine s_no rfl rfl rfl rfl rfl rfl ?_
          refine s_no rfl rfl rfl rfl rfl rfl ?_
          refine s_no rfl rfl rfl rfl rfl rfl ?_
          refine s_no rfl rfl rfl rfl rfl rfl ?_
          refine s_no rfl rfl rfl rfl rfl rfl ?_
          refine s_no rfl rfl rfl rfl rfl rfl ?_
          refine s_no rfl rfl rfl rfl rfl rfl ?_
          refine s_no rfl rfl rfl rfl rfl rfl ?_
          refine s_y (v := .bool false) (y_pickF (v := .bool false) rfl rfl rfl) rfl ?_
          refine s_y (v := .bool false) (y_assign rfl) rfl ?_
          refine wpL_nil ?_
          refine thenS_n ?_
          refine wpS_cond_f rfl ?_
          refine wpS_seq ?_
          refine wpS_region ?_
          refine s_y (v := .pointer (some ⟨b_2, 0, none⟩)) (y_fieldAddr (o' := 0) rfl Try.underlying144 rfl Try.sizeOf3 (by decide) rfl) rfl ?_
          refine s_y (v := .int .i64 (s.s0)) (y_load1 rfl Try.isAgg3 (own1 (.t .h) rfl)) rfl ?_
          refine s_y (v := .bool (decide ((s.s0 : Int) = 1))) (y_eql (a := s.s0) (b := 1) rfl rfl rfl) rfl ?_
          refine s_y (v := .bool (decide ((s.s0 : Int) = 1))) (y_move rfl) rfl ?_
          refine s_no rfl rfl rfl rfl (b' := decide ((s.s0 : Int) = 1)) rfl b7 ?_
          refine s_no rfl rfl rfl rfl (b' := decide ((s.s0 : Int) = 1)) rfl b7 ?_
          refine s_no rfl rfl rfl rfl (b' := decide ((s.s0 : Int) = 1)) rfl b7 ?_
          refine s_y (v := .bool false) (y_pickF (b := decide ((s.s0 : Int) = 1)) (v := .bool false) rfl b7 rfl) rfl ?_
          refine s_y (v := .bool false) (y_assign rfl) rfl ?_
          refine wpL_nil ?_
          refine thenS_n ?_
          refine wpS_cond_f rfl ?_
          refine wpS_seq ?_
          refine wpS_region ?_
          refine s_y (v := .pointer (some ⟨b_2, 0, none⟩)) (y_fieldAddr (o' := 0) rfl Try.underlying144 rfl Try.sizeOf3 (by decide) rfl) rfl ?_
          refine s_y (v := .int .i64 (s.s0)) (y_load1 rfl Try.isAgg3 (own1 (.t .h) rfl)) rfl ?_
          refine s_y (v := .bool (decide ((s.s0 : Int) = 2))) (y_eql (a := s.s0) (b := 2) rfl rfl rfl) rfl ?_
          refine s_y (v := .bool (decide ((s.s0 : Int) = 2))) (y_move rfl) rfl ?_
          rcases Bool.eq_false_or_eq_true (decide ((s.s0 : Int) = 2)) with b25 | b25
          · -- decide ((s.s0 : Int) = 2) True
            have p25 := of_decide_eq_true b25
            refine s_gy (y_move rfl) rfl rfl rfl rfl (b' := decide ((s.s0 : Int) = 2)) rfl b25 ?_
            refine s_y (v := .bool (decide ((s.s1 : Int) ≤ (((rnd ((sl p : Nat) : Int)) : Nat) : Int)))) (y_pickT (b := decide ((s.s0 : Int) = 2)) (v := .bool (decide ((s.s1 : Int) ≤ (((rnd ((sl p : Nat) : Int)) : Nat) : Int)))) rfl b25 rfl) rfl ?_
            refine s_y (v := .bool (decide ((s.s1 : Int) ≤ (((rnd ((sl p : Nat) : Int)) : Nat) : Int)))) (y_assign rfl) rfl ?_
            refine wpL_nil ?_
            refine thenS_n ?_
            refine wpS_cond (t := decide ((s.s1 : Int) ≤ (((rnd ((sl p : Nat) : Int)) : Nat) : Int))) rfl (fun b26 => ?_) (fun b26 => ?_)
            · -- decide ((s.s1 : Int) ≤ (((rnd ((sl p : Nat) : Int)) : Nat) : Int)) true
              have p26 := of_decide_eq_true b26
              refine wpS_seq ?_
              refine wpS_lex (by kernel_rfl) (by kernel_rfl) ?_
              refine x_y (v := .pointer (some ⟨b_3, 6, none⟩)) (y_fieldAddr (o' := 6) rfl Try.underlying184 rfl Try.sizeOf3 (by decide) rfl) rfl ?_
              refine x_y (v := .int .i64 ((ofP p).q6)) (y_load1 rfl Try.isAgg3 (own1 .h rfl)) rfl ?_
              refine x_y (v := .agg #[.int .i64 ((ofP p).q0), .int .i64 (bk p), .int .i64 ((((sl p) : Nat) : Int)), .int .i64 ((((rnd ((sl p : Nat) : Int)) : Nat) : Int)), .int .i64 ((((sl p / 2) : Nat) : Int)), .int .i64 (bk p), .int .i64 ((ofP p).q6), .int .i64 ((ofP p).q7), .int .i64 ((ofP p).q8), .int .i64 ((ofP p).q9)]) (y_loadN (vs := [.int .i64 ((ofP p).q0), .int .i64 (bk p), .int .i64 ((((sl p) : Nat) : Int)), .int .i64 ((((rnd ((sl p : Nat) : Int)) : Nat) : Int)), .int .i64 ((((sl p / 2) : Nat) : Int)), .int .i64 (bk p), .int .i64 ((ofP p).q6), .int .i64 ((ofP p).q7), .int .i64 ((ofP p).q8), .int .i64 ((ofP p).q9)]) rfl Try.isAgg184 Try.sizeOf184 (ownN .h rfl)) rfl ?_
              refine x_y (v := .pointer (some ⟨b_2, 1, none⟩)) (y_fieldAddr (o' := 1) rfl Try.underlying144 rfl Try.sizeOf3 (by decide) rfl) rfl ?_
              refine x_y (v := .int .i64 (s.s1)) (y_load1 rfl Try.isAgg3 (own1 (.t .h) rfl)) rfl ?_
              refine x_y (v := .pointer (some ⟨b_2, 2, none⟩)) (y_fieldAddr (o' := 2) rfl Try.underlying144 rfl Try.sizeOf3 (by decide) rfl) rfl ?_
              refine x_y (v := .int .i64 (s.s2)) (y_load1 rfl Try.isAgg3 (own1 (.t .h) rfl)) rfl ?_
              refine x_y (v := .int .i64 (prd (sl p) s.s1 s.s2)) (y_call (args := #[.agg #[.int .i64 ((ofP p).q0), .int .i64 (bk p), .int .i64 ((((sl p) : Nat) : Int)), .int .i64 ((((rnd ((sl p : Nat) : Int)) : Nat) : Int)), .int .i64 ((((sl p / 2) : Nat) : Int)), .int .i64 (bk p), .int .i64 ((ofP p).q6), .int .i64 ((ofP p).q7), .int .i64 ((ofP p).q8), .int .i64 ((ofP p).q9)], .int .i64 (s.s1), .int .i64 (s.s2)]) (v := .int .i64 (prd (sl p) s.s1 s.s2)) Try.call205 (ev3 rfl rfl rfl) (fun w hs => paired_c ((ofP p).q0) (bk p) (((rnd ((sl p : Nat) : Int)) : Nat) : Int) (bk p) ((ofP p).q6) ((ofP p).q7) ((ofP p).q8) ((ofP p).q9) (sl p) s.s1 s.s2 (by omega) (by omega) (far_s hok3 (by omega) (by omega)) (by omega) (by omega) (by omega) w)) rfl ?_
              have hpd := prd_bd (w := sl p) (r := s.s1) (s := s.s2) (by omega) (by omega) (by omega) (by omega) (by omega)
              refine x_y (v := .int .i64 (((ofP p).q6) + (prd (sl p) s.s1 s.s2))) (y_add (a := (ofP p).q6) (b := prd (sl p) s.s1 s.s2) (c := ((ofP p).q6) + (prd (sl p) s.s1 s.s2)) rfl rfl (wI rfl (by omega) (by omega))) rfl ?_
              refine x_y (v := .int .i64 (((ofP p).q6) + (prd (sl p) s.s1 s.s2))) (y_assign rfl) rfl ?_
              refine x_nil ?_
              refine thenS_n ?_
              refine wpS_ret ?_
              refine blockS_r ?_
              refine thenS_r ?_
              refine fin1 (M := []) (v := .int .i64 (((ofP p).q6) + (prd (sl p) s.s1 s.s2))) (.inr rfl) (.nil) Try.results128 rfl ?_
              exact fun w' hs => ⟨congrArg (fun z : Int => Ending.returned (.int .i64 z)) (mp_3 (by omega) (by omega) (by omega) (by omega) ).symm, hs⟩
            · -- decide ((s.s1 : Int) ≤ (((rnd ((sl p : Nat) : Int)) : Nat) : Int)) false
              have p26 := of_decide_eq_false b26
              refine wpS_seq ?_
              refine wpS_region ?_
              refine s_y (v := .pointer (some ⟨b_2, 0, none⟩)) (y_fieldAddr (o' := 0) rfl Try.underlying144 rfl Try.sizeOf3 (by decide) rfl) rfl ?_
              refine s_y (v := .int .i64 (s.s0)) (y_load1 rfl Try.isAgg3 (own1 (.t .h) rfl)) rfl ?_
              refine s_y (v := .bool (decide ((s.s0 : Int) = 3))) (y_eql (a := s.s0) (b := 3) rfl rfl rfl) rfl ?_
              refine s_y (v := .bool (decide ((s.s0 : Int) = 3))) (y_move rfl) rfl ?_
              rcases Bool.eq_false_or_eq_true (decide ((s.s0 : Int) = 3)) with b27 | b27
              · -- decide ((s.s0 : Int) = 3) True
                have p27 := of_decide_eq_true b27
                refine s_no rfl rfl rfl rfl (b' := decide ((s.s0 : Int) = 3)) rfl b27 ?_
                refine s_no rfl rfl rfl rfl (b' := decide ((s.s0 : Int) = 3)) rfl b27 ?_
                refine s_no rfl rfl rfl rfl (b' := decide ((s.s0 : Int) = 3)) rfl b27 ?_
                refine s_y (v := .bool true) (y_pickT (b := decide ((s.s0 : Int) = 3)) (v := .bool true) rfl b27 rfl) rfl ?_
                refine s_y (v := .bool true) (y_move rfl) rfl ?_
                refine s_gy (y_fieldAddr (o' := 1) rfl Try.underlying144 rfl Try.sizeOf3 (by decide) rfl) rfl rfl rfl rfl rfl rfl ?_
                refine s_gy (y_load1 rfl Try.isAgg3 (own1 (.t .h) rfl)) rfl rfl rfl rfl rfl rfl ?_
                refine s_gy (y_eql (a := s.s1) (b := 0) rfl rfl rfl) rfl rfl rfl rfl rfl rfl ?_
                refine s_y (v := .bool (decide ((s.s1 : Int) = 0))) (y_pickT (v := .bool (decide ((s.s1 : Int) = 0))) rfl rfl rfl) rfl ?_
                refine s_y (v := .bool (decide ((s.s1 : Int) = 0))) (y_assign rfl) rfl ?_
                refine wpL_nil ?_
                refine thenS_n ?_
                refine wpS_cond (t := decide ((s.s1 : Int) = 0)) rfl (fun b28 => ?_) (fun b28 => ?_)
                · -- decide ((s.s1 : Int) = 0) true
                  have p28 := of_decide_eq_true b28
                  refine wpS_seq ?_
                  refine wpS_region ?_
                  refine s_y (v := .pointer (some ⟨b_3, 7, none⟩)) (y_fieldAddr (o' := 7) rfl Try.underlying184 rfl Try.sizeOf3 (by decide) rfl) rfl ?_
                  refine s_y (v := .int .i64 ((ofP p).q7)) (y_load1 rfl Try.isAgg3 (own1 .h rfl)) rfl ?_
                  refine s_y (v := .pointer (some ⟨b_2, 2, none⟩)) (y_fieldAddr (o' := 2) rfl Try.underlying144 rfl Try.sizeOf3 (by decide) rfl) rfl ?_
                  refine s_y (v := .int .i64 (s.s2)) (y_load1 rfl Try.isAgg3 (own1 (.t .h) rfl)) rfl ?_
                  refine s_y (v := .int .i64 (((ofP p).q7) + s.s2)) (y_add (a := (ofP p).q7) (b := s.s2) (c := ((ofP p).q7) + s.s2) rfl rfl (wI rfl (by omega) (by omega))) rfl ?_
                  refine s_y (v := .int .i64 (((ofP p).q7) + s.s2)) (y_assign rfl) rfl ?_
                  refine wpL_nil ?_
                  refine thenS_n ?_
                  refine wpS_ret ?_
                  refine blockS_r ?_
                  refine thenS_r ?_
                  refine fin1 (M := []) (v := .int .i64 (((ofP p).q7) + s.s2)) (.inr rfl) (.nil) Try.results128 rfl ?_
                  exact fun w' hs => ⟨congrArg (fun z : Int => Ending.returned (.int .i64 z)) (mp_4 (by omega) (by omega) (by omega) (by omega) (by omega) ).symm, hs⟩
                · -- decide ((s.s1 : Int) = 0) false
                  have p28 := of_decide_eq_false b28
                  refine wpS_seq ?_
                  refine wpS_region ?_
                  refine s_y (v := .pointer (some ⟨b_2, 0, none⟩)) (y_fieldAddr (o' := 0) rfl Try.underlying144 rfl Try.sizeOf3 (by decide) rfl) rfl ?_
                  refine s_y (v := .int .i64 (s.s0)) (y_load1 rfl Try.isAgg3 (own1 (.t .h) rfl)) rfl ?_
                  refine s_y (v := .bool (decide ((s.s0 : Int) = 5))) (y_eql (a := s.s0) (b := 5) rfl rfl rfl) rfl ?_
                  refine s_y (v := .bool (decide ((s.s0 : Int) = 5))) (y_move rfl) rfl ?_
                  rcases Bool.eq_false_or_eq_true (decide ((s.s0 : Int) = 5)) with b29 | b29
                  · -- decide ((s.s0 : Int) = 5) True
                    have p29 := of_decide_eq_true b29
                    refine s_gy (y_move rfl) rfl rfl rfl rfl (b' := decide ((s.s0 : Int) = 5)) rfl b29 ?_
                    refine s_y (v := .bool (decide ((s.s1 : Int) ≤ (((rnd ((sl p : Nat) : Int)) : Nat) : Int)))) (y_pickT (b := decide ((s.s0 : Int) = 5)) (v := .bool (decide ((s.s1 : Int) ≤ (((rnd ((sl p : Nat) : Int)) : Nat) : Int)))) rfl b29 rfl) rfl ?_
                    refine s_y (v := .bool (decide ((s.s1 : Int) ≤ (((rnd ((sl p : Nat) : Int)) : Nat) : Int)))) (y_assign rfl) rfl ?_
                    refine wpL_nil ?_
                    refine thenS_n ?_
                    refine wpS_cond_F (t := decide ((s.s1 : Int) ≤ (((rnd ((sl p : Nat) : Int)) : Nat) : Int))) rfl b26 ?_
                    refine wpS_skip ?_
                    refine blockS_n ?_
                    refine thenS_n ?_
                    refine wpS_seq ?_
                    refine wpS_region ?_
                    refine s_y (v := .int .i64 (-1)) (y_assign rfl) rfl ?_
                    refine wpL_nil ?_
                    refine thenS_n ?_
                    refine wpS_ret ?_
                    refine fin1 (M := []) (v := .int .i64 (-1)) (.inr rfl) (.nil) Try.results128 rfl ?_
                    exact fun w' hs => ⟨congrArg (fun z : Int => Ending.returned (.int .i64 z)) (mp_6 (by omega) (by omega) (by omega) (by omega) (by omega) (by omega) ).symm, hs⟩
                  · -- decide ((s.s0 : Int) = 5) False
                    have p29 := of_decide_eq_false b29
                    refine s_no rfl rfl rfl rfl (b' := decide ((s.s0 : Int) = 5)) rfl b29 ?_
                    refine s_y (v := .bool false) (y_pickF (b := decide ((s.s0 : Int) = 5)) (v := .bool false) rfl b29 rfl) rfl ?_
                    refine s_y (v := .bool false) (y_assign rfl) rfl ?_
                    refine wpL_nil ?_
                    refine thenS_n ?_
                    refine wpS_cond_f rfl ?_
                    refine wpS_skip ?_
                    refine blockS_n ?_
                    refine thenS_n ?_
                    refine wpS_seq ?_
                    refine wpS_region ?_
                    refine s_y (v := .int .i64 (-1)) (y_assign rfl) rfl ?_
                    refine wpL_nil ?_
                    refine thenS_n ?_
                    refine wpS_ret ?_
                    refine fin1 (M := []) (v := .int .i64 (-1)) (.inr rfl) (.nil) Try.results128 rfl ?_
                    exact fun w' hs => ⟨congrArg (fun z : Int => Ending.returned (.int .i64 z)) (mp_6 (by omega) (by omega) (by omega) (by omega) (by omega) (by omega) ).symm, hs⟩
              · -- decide ((s.s0 : Int) = 3) False
                have p27 := of_decide_eq_false b27
                refine s_gy (y_fieldAddr (o' := 0) rfl Try.underlying144 rfl Try.sizeOf3 (by decide) rfl) rfl rfl rfl rfl (b' := decide ((s.s0 : Int) = 3)) rfl b27 ?_
                refine s_gy (y_load1 rfl Try.isAgg3 (own1 (.t .h) rfl)) rfl rfl rfl rfl (b' := decide ((s.s0 : Int) = 3)) rfl b27 ?_
                refine s_gy (y_eql (a := s.s0) (b := 4) rfl rfl rfl) rfl rfl rfl rfl (b' := decide ((s.s0 : Int) = 3)) rfl b27 ?_
                refine s_y (v := .bool (decide ((s.s0 : Int) = 4))) (y_pickF (b := decide ((s.s0 : Int) = 3)) (v := .bool (decide ((s.s0 : Int) = 4))) rfl b27 rfl) rfl ?_
                refine s_y (v := .bool (decide ((s.s0 : Int) = 4))) (y_move rfl) rfl ?_
                rcases Bool.eq_false_or_eq_true (decide ((s.s0 : Int) = 4)) with b30 | b30
                · -- decide ((s.s0 : Int) = 4) True
                  have p30 := of_decide_eq_true b30
                  refine s_gy (y_fieldAddr (o' := 1) rfl Try.underlying144 rfl Try.sizeOf3 (by decide) rfl) rfl rfl rfl rfl (b' := decide ((s.s0 : Int) = 4)) rfl b30 ?_
                  refine s_gy (y_load1 rfl Try.isAgg3 (own1 (.t .h) rfl)) rfl rfl rfl rfl (b' := decide ((s.s0 : Int) = 4)) rfl b30 ?_
                  refine s_gy (y_eql (a := s.s1) (b := 0) rfl rfl rfl) rfl rfl rfl rfl (b' := decide ((s.s0 : Int) = 4)) rfl b30 ?_
                  refine s_y (v := .bool (decide ((s.s1 : Int) = 0))) (y_pickT (b := decide ((s.s0 : Int) = 4)) (v := .bool (decide ((s.s1 : Int) = 0))) rfl b30 rfl) rfl ?_
                  refine s_y (v := .bool (decide ((s.s1 : Int) = 0))) (y_assign rfl) rfl ?_
                  refine wpL_nil ?_
                  refine thenS_n ?_
                  refine wpS_cond (t := decide ((s.s1 : Int) = 0)) rfl (fun b31 => ?_) (fun b31 => ?_)
                  · -- decide ((s.s1 : Int) = 0) true
                    have p31 := of_decide_eq_true b31
                    refine wpS_seq ?_
                    refine wpS_region ?_
                    refine s_y (v := .pointer (some ⟨b_3, 7, none⟩)) (y_fieldAddr (o' := 7) rfl Try.underlying184 rfl Try.sizeOf3 (by decide) rfl) rfl ?_
                    refine s_y (v := .int .i64 ((ofP p).q7)) (y_load1 rfl Try.isAgg3 (own1 .h rfl)) rfl ?_
                    refine s_y (v := .pointer (some ⟨b_2, 2, none⟩)) (y_fieldAddr (o' := 2) rfl Try.underlying144 rfl Try.sizeOf3 (by decide) rfl) rfl ?_
                    refine s_y (v := .int .i64 (s.s2)) (y_load1 rfl Try.isAgg3 (own1 (.t .h) rfl)) rfl ?_
                    refine s_y (v := .int .i64 (((ofP p).q7) + s.s2)) (y_add (a := (ofP p).q7) (b := s.s2) (c := ((ofP p).q7) + s.s2) rfl rfl (wI rfl (by omega) (by omega))) rfl ?_
                    refine s_y (v := .int .i64 (((ofP p).q7) + s.s2)) (y_assign rfl) rfl ?_
                    refine wpL_nil ?_
                    refine thenS_n ?_
                    refine wpS_ret ?_
                    refine blockS_r ?_
                    refine thenS_r ?_
                    refine fin1 (M := []) (v := .int .i64 (((ofP p).q7) + s.s2)) (.inr rfl) (.nil) Try.results128 rfl ?_
                    exact fun w' hs => ⟨congrArg (fun z : Int => Ending.returned (.int .i64 z)) (mp_4 (by omega) (by omega) (by omega) (by omega) (by omega) ).symm, hs⟩
                  · -- decide ((s.s1 : Int) = 0) false
                    have p31 := of_decide_eq_false b31
                    refine wpS_seq ?_
                    refine wpS_region ?_
                    refine s_y (v := .pointer (some ⟨b_2, 0, none⟩)) (y_fieldAddr (o' := 0) rfl Try.underlying144 rfl Try.sizeOf3 (by decide) rfl) rfl ?_
                    refine s_y (v := .int .i64 (s.s0)) (y_load1 rfl Try.isAgg3 (own1 (.t .h) rfl)) rfl ?_
                    refine s_y (v := .bool (decide ((s.s0 : Int) = 5))) (y_eql (a := s.s0) (b := 5) rfl rfl rfl) rfl ?_
                    refine s_y (v := .bool (decide ((s.s0 : Int) = 5))) (y_move rfl) rfl ?_
                    rcases Bool.eq_false_or_eq_true (decide ((s.s0 : Int) = 5)) with b32 | b32
                    · -- decide ((s.s0 : Int) = 5) True
                      have p32 := of_decide_eq_true b32
                      refine s_gy (y_move rfl) rfl rfl rfl rfl (b' := decide ((s.s0 : Int) = 5)) rfl b32 ?_
                      refine s_y (v := .bool (decide ((s.s1 : Int) ≤ (((rnd ((sl p : Nat) : Int)) : Nat) : Int)))) (y_pickT (b := decide ((s.s0 : Int) = 5)) (v := .bool (decide ((s.s1 : Int) ≤ (((rnd ((sl p : Nat) : Int)) : Nat) : Int)))) rfl b32 rfl) rfl ?_
                      refine s_y (v := .bool (decide ((s.s1 : Int) ≤ (((rnd ((sl p : Nat) : Int)) : Nat) : Int)))) (y_assign rfl) rfl ?_
                      refine wpL_nil ?_
                      refine thenS_n ?_
                      refine wpS_cond_F (t := decide ((s.s1 : Int) ≤ (((rnd ((sl p : Nat) : Int)) : Nat) : Int))) rfl b26 ?_
                      refine wpS_skip ?_
                      refine blockS_n ?_
                      refine thenS_n ?_
                      refine wpS_seq ?_
                      refine wpS_region ?_
                      refine s_y (v := .int .i64 (-1)) (y_assign rfl) rfl ?_
                      refine wpL_nil ?_
                      refine thenS_n ?_
                      refine wpS_ret ?_
                      refine fin1 (M := []) (v := .int .i64 (-1)) (.inr rfl) (.nil) Try.results128 rfl ?_
                      exact fun w' hs => ⟨congrArg (fun z : Int => Ending.returned (.int .i64 z)) (mp_6 (by omega) (by omega) (by omega) (by omega) (by omega) (by omega) ).symm, hs⟩
                    · -- decide ((s.s0 : Int) = 5) False
                      have p32 := of_decide_eq_false b32
                      refine s_no rfl rfl rfl rfl (b' := decide ((s.s0 : Int) = 5)) rfl b32 ?_
                      refine s_y (v := .bool false) (y_pickF (b := decide ((s.s0 : Int) = 5)) (v := .bool false) rfl b32 rfl) rfl ?_
                      refine s_y (v := .bool false) (y_assign rfl) rfl ?_
                      refine wpL_nil ?_
                      refine thenS_n ?_
                      refine wpS_cond_f rfl ?_
                      refine wpS_skip ?_
                      refine blockS_n ?_
                      refine thenS_n ?_
                      refine wpS_seq ?_
                      refine wpS_region ?_
                      refine s_y (v := .int .i64 (-1)) (y_assign rfl) rfl ?_
                      refine wpL_nil ?_
                      refine thenS_n ?_
                      refine wpS_ret ?_
                      refine fin1 (M := []) (v := .int .i64 (-1)) (.inr rfl) (.nil) Try.results128 rfl ?_
                      exact fun w' hs => ⟨congrArg (fun z : Int => Ending.returned (.int .i64 z)) (mp_6 (by omega) (by omega) (by omega) (by omega) (by omega) (by omega) ).symm, hs⟩
                · -- decide ((s.s0 : Int) = 4) False
                  have p30 := of_decide_eq_false b30
                  refine s_no rfl rfl rfl rfl (b' := decide ((s.s0 : Int) = 4)) rfl b30 ?_
                  refine s_no rfl rfl rfl rfl (b' := decide ((s.s0 : Int) = 4)) rfl b30 ?_
                  refine s_no rfl rfl rfl rfl (b' := decide ((s.s0 : Int) = 4)) rfl b30 ?_
                  refine s_y (v := .bool false) (y_pickF (b := decide ((s.s0 : Int) = 4)) (v := .bool false) rfl b30 rfl) rfl ?_
                  refine s_y (v := .bool false) (y_assign rfl) rfl ?_
                  refine wpL_nil ?_
                  refine thenS_n ?_
                  refine wpS_cond_f rfl ?_
                  refine wpS_seq ?_
                  refine wpS_region ?_
                  refine s_y (v := .pointer (some ⟨b_2, 0, none⟩)) (y_fieldAddr (o' := 0) rfl Try.underlying144 rfl Try.sizeOf3 (by decide) rfl) rfl ?_
                  refine s_y (v := .int .i64 (s.s0)) (y_load1 rfl Try.isAgg3 (own1 (.t .h) rfl)) rfl ?_
                  refine s_y (v := .bool (decide ((s.s0 : Int) = 5))) (y_eql (a := s.s0) (b := 5) rfl rfl rfl) rfl ?_
                  refine s_y (v := .bool (decide ((s.s0 : Int) = 5))) (y_move rfl) rfl ?_
                  rcases Bool.eq_false_or_eq_true (decide ((s.s0 : Int) = 5)) with b33 | b33
                  · -- decide ((s.s0 : Int) = 5) True
                    have p33 := of_decide_eq_true b33
                    refine s_gy (y_move rfl) rfl rfl rfl rfl (b' := decide ((s.s0 : Int) = 5)) rfl b33 ?_
                    refine s_y (v := .bool (decide ((s.s1 : Int) ≤ (((rnd ((sl p : Nat) : Int)) : Nat) : Int)))) (y_pickT (b := decide ((s.s0 : Int) = 5)) (v := .bool (decide ((s.s1 : Int) ≤ (((rnd ((sl p : Nat) : Int)) : Nat) : Int)))) rfl b33 rfl) rfl ?_
                    refine s_y (v := .bool (decide ((s.s1 : Int) ≤ (((rnd ((sl p : Nat) : Int)) : Nat) : Int)))) (y_assign rfl) rfl ?_
                    refine wpL_nil ?_
                    refine thenS_n ?_
                    refine wpS_cond_F (t := decide ((s.s1 : Int) ≤ (((rnd ((sl p : Nat) : Int)) : Nat) : Int))) rfl b26 ?_
                    refine wpS_skip ?_
                    refine blockS_n ?_
                    refine thenS_n ?_
                    refine wpS_seq ?_
                    refine wpS_region ?_
                    refine s_y (v := .int .i64 (-1)) (y_assign rfl) rfl ?_
                    refine wpL_nil ?_
                    refine thenS_n ?_
                    refine wpS_ret ?_
                    refine fin1 (M := []) (v := .int .i64 (-1)) (.inr rfl) (.nil) Try.results128 rfl ?_
                    exact fun w' hs => ⟨congrArg (fun z : Int => Ending.returned (.int .i64 z)) (mp_6 (by omega) (by omega) (by omega) (by omega) (by omega) (by omega) ).symm, hs⟩
                  · -- decide ((s.s0 : Int) = 5) False
                    have p33 := of_decide_eq_false b33
                    refine s_no rfl rfl rfl rfl (b' := decide ((s.s0 : Int) = 5)) rfl b33 ?_
                    refine s_y (v := .bool false) (y_pickF (b := decide ((s.s0 : Int) = 5)) (v := .bool false) rfl b33 rfl) rfl ?_
                    refine s_y (v := .bool false) (y_assign rfl) rfl ?_
                    refine wpL_nil ?_
                    refine thenS_n ?_
                    refine wpS_cond_f rfl ?_
                    refine wpS_skip ?_
                    refine blockS_n ?_
                    refine thenS_n ?_
                    refine wpS_seq ?_
                    refine wpS_region ?_
                    refine s_y (v := .int .i64 (-1)) (y_assign rfl) rfl ?_
                    refine wpL_nil ?_
                    refine thenS_n ?_
                    refine wpS_ret ?_
                    refine fin1 (M := []) (v := .int .i64 (-1)) (.inr rfl) (.nil) Try.results128 rfl ?_
                    exact fun w' hs => ⟨congrArg (fun z : Int => Ending.returned (.int .i64 z)) (mp_6 (by omega) (by omega) (by omega) (by omega) (by omega) (by omega) ).symm, hs⟩
          · -- decide ((s.s0 : Int) = 2) False
            have p25 := of_decide_eq_false b25
            refine s_no rfl rfl rfl rfl (b' := decide ((s.s0 : Int) = 2)) rfl b25 ?_
            refine s_y (v := .bool false) (y_pickF (b := decide ((s.s0 : Int) = 2)) (v := .bool false) rfl b25 rfl) rfl ?_
            refine s_y (v := .bool false) (y_assign rfl) rfl ?_
            refine wpL_nil ?_
            refine thenS_n ?_
            refine wpS_cond_f rfl ?_
            refine wpS_seq ?_
            refine wpS_region ?_
            refine s_y (v := .pointer (some ⟨b_2, 0, none⟩)) (y_fieldAddr (o' := 0) rfl Try.underlying144 rfl Try.sizeOf3 (by decide) rfl) rfl ?_
            refine s_y (v := .int .i64 (s.s0)) (y_load1 rfl Try.isAgg3 (own1 (.t .h) rfl)) rfl ?_
            refine s_y (v := .bool (decide ((s.s0 : Int) = 3))) (y_eql (a := s.s0) (b := 3) rfl rfl rfl) rfl ?_
            refine s_y (v := .bool (decide ((s.s0 : Int) = 3))) (y_move rfl) rfl ?_
            rcases Bool.eq_false_or_eq_true (decide ((s.s0 : Int) = 3)) with b34 | b34
            · -- decide ((s.s0 : Int) = 3) True
              have p34 := of_decide_eq_true b34
              refine s_no rfl rfl rfl rfl (b' := decide ((s.s0 : Int) = 3)) rfl b34 ?_
              refine s_no rfl rfl rfl rfl (b' := decide ((s.s0 : Int) = 3)) rfl b34 ?_
              refine s_no rfl rfl rfl rfl (b' := decide ((s.s0 : Int) = 3)) rfl b34 ?_
              refine s_y (v := .bool true) (y_pickT (b := decide ((s.s0 : Int) = 3)) (v := .bool true) rfl b34 rfl) rfl ?_
              refine s_y (v := .bool true) (y_move rfl) rfl ?_
              refine s_gy (y_fieldAddr (o' := 1) rfl Try.underlying144 rfl Try.sizeOf3 (by decide) rfl) rfl rfl rfl rfl rfl rfl ?_
              refine s_gy (y_load1 rfl Try.isAgg3 (own1 (.t .h) rfl)) rfl rfl rfl rfl rfl rfl ?_
              refine s_gy (y_eql (a := s.s1) (b := 0) rfl rfl rfl) rfl rfl rfl rfl rfl rfl ?_
              refine s_y (v := .bool (decide ((s.s1 : Int) = 0))) (y_pickT (v := .bool (decide ((s.s1 : Int) = 0))) rfl rfl rfl) rfl ?_
              refine s_y (v := .bool (decide ((s.s1 : Int) = 0))) (y_assign rfl) rfl ?_
              refine wpL_nil ?_
              refine thenS_n ?_
              refine wpS_cond (t := decide ((s.s1 : Int) = 0)) rfl (fun b35 => ?_) (fun b35 => ?_)
              · -- decide ((s.s1 : Int) = 0) true
                have p35 := of_decide_eq_true b35
                refine wpS_seq ?_
                refine wpS_region ?_
                refine s_y (v := .pointer (some ⟨b_3, 7, none⟩)) (y_fieldAddr (o' := 7) rfl Try.underlying184 rfl Try.sizeOf3 (by decide) rfl) rfl ?_
                refine s_y (v := .int .i64 ((ofP p).q7)) (y_load1 rfl Try.isAgg3 (own1 .h rfl)) rfl ?_
                refine s_y (v := .pointer (some ⟨b_2, 2, none⟩)) (y_fieldAddr (o' := 2) rfl Try.underlying144 rfl Try.sizeOf3 (by decide) rfl) rfl ?_
                refine s_y (v := .int .i64 (s.s2)) (y_load1 rfl Try.isAgg3 (own1 (.t .h) rfl)) rfl ?_
                refine s_y (v := .int .i64 (((ofP p).q7) + s.s2)) (y_add (a := (ofP p).q7) (b := s.s2) (c := ((ofP p).q7) + s.s2) rfl rfl (wI rfl (by omega) (by omega))) rfl ?_
                refine s_y (v := .int .i64 (((ofP p).q7) + s.s2)) (y_assign rfl) rfl ?_
                refine wpL_nil ?_
                refine thenS_n ?_
                refine wpS_ret ?_
                refine blockS_r ?_
                refine thenS_r ?_
                refine fin1 (M := []) (v := .int .i64 (((ofP p).q7) + s.s2)) (.inr rfl) (.nil) Try.results128 rfl ?_
                exact fun w' hs => ⟨congrArg (fun z : Int => Ending.returned (.int .i64 z)) (mp_4 (by omega) (by omega) (by omega) (by omega) (by omega) ).symm, hs⟩
              · -- decide ((s.s1 : Int) = 0) false
                have p35 := of_decide_eq_false b35
                refine wpS_seq ?_
                refine wpS_region ?_
                refine s_y (v := .pointer (some ⟨b_2, 0, none⟩)) (y_fieldAddr (o' := 0) rfl Try.underlying144 rfl Try.sizeOf3 (by decide) rfl) rfl ?_
                refine s_y (v := .int .i64 (s.s0)) (y_load1 rfl Try.isAgg3 (own1 (.t .h) rfl)) rfl ?_
                refine s_y (v := .bool (decide ((s.s0 : Int) = 5))) (y_eql (a := s.s0) (b := 5) rfl rfl rfl) rfl ?_
                refine s_y (v := .bool (decide ((s.s0 : Int) = 5))) (y_move rfl) rfl ?_
                rcases Bool.eq_false_or_eq_true (decide ((s.s0 : Int) = 5)) with b36 | b36
                · -- decide ((s.s0 : Int) = 5) True
                  have p36 := of_decide_eq_true b36
                  refine s_gy (y_move rfl) rfl rfl rfl rfl (b' := decide ((s.s0 : Int) = 5)) rfl b36 ?_
                  refine s_y (v := .bool (decide ((s.s1 : Int) ≤ (((rnd ((sl p : Nat) : Int)) : Nat) : Int)))) (y_pickT (b := decide ((s.s0 : Int) = 5)) (v := .bool (decide ((s.s1 : Int) ≤ (((rnd ((sl p : Nat) : Int)) : Nat) : Int)))) rfl b36 rfl) rfl ?_
                  refine s_y (v := .bool (decide ((s.s1 : Int) ≤ (((rnd ((sl p : Nat) : Int)) : Nat) : Int)))) (y_assign rfl) rfl ?_
                  refine wpL_nil ?_
                  refine thenS_n ?_
                  refine wpS_cond (t := decide ((s.s1 : Int) ≤ (((rnd ((sl p : Nat) : Int)) : Nat) : Int))) rfl (fun b37 => ?_) (fun b37 => ?_)
                  · -- decide ((s.s1 : Int) ≤ (((rnd ((sl p : Nat) : Int)) : Nat) : Int)) true
                    have p37 := of_decide_eq_true b37
                    refine wpS_seq ?_
                    refine wpS_lex (by kernel_rfl) (by kernel_rfl) ?_
                    refine x_y (v := .pointer (some ⟨b_3, 8, none⟩)) (y_fieldAddr (o' := 8) rfl Try.underlying184 rfl Try.sizeOf3 (by decide) rfl) rfl ?_
                    refine x_y (v := .int .i64 ((ofP p).q8)) (y_load1 rfl Try.isAgg3 (own1 .h rfl)) rfl ?_
                    refine x_y (v := .agg #[.int .i64 ((ofP p).q0), .int .i64 (bk p), .int .i64 ((((sl p) : Nat) : Int)), .int .i64 ((((rnd ((sl p : Nat) : Int)) : Nat) : Int)), .int .i64 ((((sl p / 2) : Nat) : Int)), .int .i64 (bk p), .int .i64 ((ofP p).q6), .int .i64 ((ofP p).q7), .int .i64 ((ofP p).q8), .int .i64 ((ofP p).q9)]) (y_loadN (vs := [.int .i64 ((ofP p).q0), .int .i64 (bk p), .int .i64 ((((sl p) : Nat) : Int)), .int .i64 ((((rnd ((sl p : Nat) : Int)) : Nat) : Int)), .int .i64 ((((sl p / 2) : Nat) : Int)), .int .i64 (bk p), .int .i64 ((ofP p).q6), .int .i64 ((ofP p).q7), .int .i64 ((ofP p).q8), .int .i64 ((ofP p).q9)]) rfl Try.isAgg184 Try.sizeOf184 (ownN .h rfl)) rfl ?_
                    refine x_y (v := .pointer (some ⟨b_2, 1, none⟩)) (y_fieldAddr (o' := 1) rfl Try.underlying144 rfl Try.sizeOf3 (by decide) rfl) rfl ?_
                    refine x_y (v := .int .i64 (s.s1)) (y_load1 rfl Try.isAgg3 (own1 (.t .h) rfl)) rfl ?_
                    refine x_y (v := .pointer (some ⟨b_2, 2, none⟩)) (y_fieldAddr (o' := 2) rfl Try.underlying144 rfl Try.sizeOf3 (by decide) rfl) rfl ?_
                    refine x_y (v := .int .i64 (s.s2)) (y_load1 rfl Try.isAgg3 (own1 (.t .h) rfl)) rfl ?_
                    refine x_y (v := .int .i64 (prd (sl p) s.s1 s.s2)) (y_call (args := #[.agg #[.int .i64 ((ofP p).q0), .int .i64 (bk p), .int .i64 ((((sl p) : Nat) : Int)), .int .i64 ((((rnd ((sl p : Nat) : Int)) : Nat) : Int)), .int .i64 ((((sl p / 2) : Nat) : Int)), .int .i64 (bk p), .int .i64 ((ofP p).q6), .int .i64 ((ofP p).q7), .int .i64 ((ofP p).q8), .int .i64 ((ofP p).q9)], .int .i64 (s.s1), .int .i64 (s.s2)]) (v := .int .i64 (prd (sl p) s.s1 s.s2)) Try.call205 (ev3 rfl rfl rfl) (fun w hs => paired_c ((ofP p).q0) (bk p) (((rnd ((sl p : Nat) : Int)) : Nat) : Int) (bk p) ((ofP p).q6) ((ofP p).q7) ((ofP p).q8) ((ofP p).q9) (sl p) s.s1 s.s2 (by omega) (by omega) (far_s hok3 (by omega) (by omega)) (by omega) (by omega) (by omega) w)) rfl ?_
                    have hpd := prd_bd (w := sl p) (r := s.s1) (s := s.s2) (by omega) (by omega) (by omega) (by omega) (by omega)
                    refine x_y (v := .int .i64 (((ofP p).q8) + (prd (sl p) s.s1 s.s2))) (y_add (a := (ofP p).q8) (b := prd (sl p) s.s1 s.s2) (c := ((ofP p).q8) + (prd (sl p) s.s1 s.s2)) rfl rfl (wI rfl (by omega) (by omega))) rfl ?_
                    refine x_y (v := .int .i64 (((ofP p).q8) + (prd (sl p) s.s1 s.s2))) (y_assign rfl) rfl ?_
                    refine x_nil ?_
                    refine thenS_n ?_
                    refine wpS_ret ?_
                    refine blockS_r ?_
                    refine thenS_r ?_
                    refine fin1 (M := []) (v := .int .i64 (((ofP p).q8) + (prd (sl p) s.s1 s.s2))) (.inr rfl) (.nil) Try.results128 rfl ?_
                    exact fun w' hs => ⟨congrArg (fun z : Int => Ending.returned (.int .i64 z)) (mp_5 (by omega) (by omega) (by omega) (by omega) (by omega) (by omega) ).symm, hs⟩
                  · -- decide ((s.s1 : Int) ≤ (((rnd ((sl p : Nat) : Int)) : Nat) : Int)) false
                    have p37 := of_decide_eq_false b37
                    refine wpS_skip ?_
                    refine blockS_n ?_
                    refine thenS_n ?_
                    refine wpS_seq ?_
                    refine wpS_region ?_
                    refine s_y (v := .int .i64 (-1)) (y_assign rfl) rfl ?_
                    refine wpL_nil ?_
                    refine thenS_n ?_
                    refine wpS_ret ?_
                    refine fin1 (M := []) (v := .int .i64 (-1)) (.inr rfl) (.nil) Try.results128 rfl ?_
                    exact fun w' hs => ⟨congrArg (fun z : Int => Ending.returned (.int .i64 z)) (mp_6 (by omega) (by omega) (by omega) (by omega) (by omega) (by omega) ).symm, hs⟩
                · -- decide ((s.s0 : Int) = 5) False
                  have p36 := of_decide_eq_false b36
                  refine s_no rfl rfl rfl rfl (b' := decide ((s.s0 : Int) = 5)) rfl b36 ?_
                  refine s_y (v := .bool false) (y_pickF (b := decide ((s.s0 : Int) = 5)) (v := .bool false) rfl b36 rfl) rfl ?_
                  refine s_y (v := .bool false) (y_assign rfl) rfl ?_
                  refine wpL_nil ?_
                  refine thenS_n ?_
                  refine wpS_cond_f rfl ?_
                  refine wpS_skip ?_
                  refine blockS_n ?_
                  refine thenS_n ?_
                  refine wpS_seq ?_
                  refine wpS_region ?_
                  refine s_y (v := .int .i64 (-1)) (y_assign rfl) rfl ?_
                  refine wpL_nil ?_
                  refine thenS_n ?_
                  refine wpS_ret ?_
                  refine fin1 (M := []) (v := .int .i64 (-1)) (.inr rfl) (.nil) Try.results128 rfl ?_
                  exact fun w' hs => ⟨congrArg (fun z : Int => Ending.returned (.int .i64 z)) (mp_6 (by omega) (by omega) (by omega) (by omega) (by omega) (by omega) ).symm, hs⟩
            · -- decide ((s.s0 : Int) = 3) False
              have p34 := of_decide_eq_false b34
              refine s_gy (y_fieldAddr (o' := 0) rfl Try.underlying144 rfl Try.sizeOf3 (by decide) rfl) rfl rfl rfl rfl (b' := decide ((s.s0 : Int) = 3)) rfl b34 ?_
              refine s_gy (y_load1 rfl Try.isAgg3 (own1 (.t .h) rfl)) rfl rfl rfl rfl (b' := decide ((s.s0 : Int) = 3)) rfl b34 ?_
              refine s_gy (y_eql (a := s.s0) (b := 4) rfl rfl rfl) rfl rfl rfl rfl (b' := decide ((s.s0 : Int) = 3)) rfl b34 ?_
              refine s_y (v := .bool (decide ((s.s0 : Int) = 4))) (y_pickF (b := decide ((s.s0 : Int) = 3)) (v := .bool (decide ((s.s0 : Int) = 4))) rfl b34 rfl) rfl ?_
              refine s_y (v := .bool (decide ((s.s0 : Int) = 4))) (y_move rfl) rfl ?_
              rcases Bool.eq_false_or_eq_true (decide ((s.s0 : Int) = 4)) with b38 | b38
              · -- decide ((s.s0 : Int) = 4) True
                have p38 := of_decide_eq_true b38
                refine s_gy (y_fieldAddr (o' := 1) rfl Try.underlying144 rfl Try.sizeOf3 (by decide) rfl) rfl rfl rfl rfl (b' := decide ((s.s0 : Int) = 4)) rfl b38 ?_
                refine s_gy (y_load1 rfl Try.isAgg3 (own1 (.t .h) rfl)) rfl rfl rfl rfl (b' := decide ((s.s0 : Int) = 4)) rfl b38 ?_
                refine s_gy (y_eql (a := s.s1) (b := 0) rfl rfl rfl) rfl rfl rfl rfl (b' := decide ((s.s0 : Int) = 4)) rfl b38 ?_
                refine s_y (v := .bool (decide ((s.s1 : Int) = 0))) (y_pickT (b := decide ((s.s0 : Int) = 4)) (v := .bool (decide ((s.s1 : Int) = 0))) rfl b38 rfl) rfl ?_
                refine s_y (v := .bool (decide ((s.s1 : Int) = 0))) (y_assign rfl) rfl ?_
                refine wpL_nil ?_
                refine thenS_n ?_
                refine wpS_cond (t := decide ((s.s1 : Int) = 0)) rfl (fun b39 => ?_) (fun b39 => ?_)
                · -- decide ((s.s1 : Int) = 0) true
                  have p39 := of_decide_eq_true b39
                  refine wpS_seq ?_
                  refine wpS_region ?_
                  refine s_y (v := .pointer (some ⟨b_3, 7, none⟩)) (y_fieldAddr (o' := 7) rfl Try.underlying184 rfl Try.sizeOf3 (by decide) rfl) rfl ?_
                  refine s_y (v := .int .i64 ((ofP p).q7)) (y_load1 rfl Try.isAgg3 (own1 .h rfl)) rfl ?_
                  refine s_y (v := .pointer (some ⟨b_2, 2, none⟩)) (y_fieldAddr (o' := 2) rfl Try.underlying144 rfl Try.sizeOf3 (by decide) rfl) rfl ?_
                  refine s_y (v := .int .i64 (s.s2)) (y_load1 rfl Try.isAgg3 (own1 (.t .h) rfl)) rfl ?_
                  refine s_y (v := .int .i64 (((ofP p).q7) + s.s2)) (y_add (a := (ofP p).q7) (b := s.s2) (c := ((ofP p).q7) + s.s2) rfl rfl (wI rfl (by omega) (by omega))) rfl ?_
                  refine s_y (v := .int .i64 (((ofP p).q7) + s.s2)) (y_assign rfl) rfl ?_
                  refine wpL_nil ?_
                  refine thenS_n ?_
                  refine wpS_ret ?_
                  refine blockS_r ?_
                  refine thenS_r ?_
                  refine fin1 (M := []) (v := .int .i64 (((ofP p).q7) + s.s2)) (.inr rfl) (.nil) Try.results128 rfl ?_
                  exact fun w' hs => ⟨congrArg (fun z : Int => Ending.returned (.int .i64 z)) (mp_4 (by omega) (by omega) (by omega) (by omega) (by omega) ).symm, hs⟩
                · -- decide ((s.s1 : Int) = 0) false
                  have p39 := of_decide_eq_false b39
                  refine wpS_seq ?_
                  refine wpS_region ?_
                  refine s_y (v := .pointer (some ⟨b_2, 0, none⟩)) (y_fieldAddr (o' := 0) rfl Try.underlying144 rfl Try.sizeOf3 (by decide) rfl) rfl ?_
                  refine s_y (v := .int .i64 (s.s0)) (y_load1 rfl Try.isAgg3 (own1 (.t .h) rfl)) rfl ?_
                  refine s_y (v := .bool (decide ((s.s0 : Int) = 5))) (y_eql (a := s.s0) (b := 5) rfl rfl rfl) rfl ?_
                  refine s_y (v := .bool (decide ((s.s0 : Int) = 5))) (y_move rfl) rfl ?_
                  rcases Bool.eq_false_or_eq_true (decide ((s.s0 : Int) = 5)) with b40 | b40
                  · -- decide ((s.s0 : Int) = 5) True
                    have p40 := of_decide_eq_true b40
                    refine s_gy (y_move rfl) rfl rfl rfl rfl (b' := decide ((s.s0 : Int) = 5)) rfl b40 ?_
                    refine s_y (v := .bool (decide ((s.s1 : Int) ≤ (((rnd ((sl p : Nat) : Int)) : Nat) : Int)))) (y_pickT (b := decide ((s.s0 : Int) = 5)) (v := .bool (decide ((s.s1 : Int) ≤ (((rnd ((sl p : Nat) : Int)) : Nat) : Int)))) rfl b40 rfl) rfl ?_
                    refine s_y (v := .bool (decide ((s.s1 : Int) ≤ (((rnd ((sl p : Nat) : Int)) : Nat) : Int)))) (y_assign rfl) rfl ?_
                    refine wpL_nil ?_
                    refine thenS_n ?_
                    refine wpS_cond (t := decide ((s.s1 : Int) ≤ (((rnd ((sl p : Nat) : Int)) : Nat) : Int))) rfl (fun b41 => ?_) (fun b41 => ?_)
                    · -- decide ((s.s1 : Int) ≤ (((rnd ((sl p : Nat) : Int)) : Nat) : Int)) true
                      have p41 := of_decide_eq_true b41
                      refine wpS_seq ?_
                      refine wpS_lex (by kernel_rfl) (by kernel_rfl) ?_
                      refine x_y (v := .pointer (some ⟨b_3, 8, none⟩)) (y_fieldAddr (o' := 8) rfl Try.underlying184 rfl Try.sizeOf3 (by decide) rfl) rfl ?_
                      refine x_y (v := .int .i64 ((ofP p).q8)) (y_load1 rfl Try.isAgg3 (own1 .h rfl)) rfl ?_
                      refine x_y (v := .agg #[.int .i64 ((ofP p).q0), .int .i64 (bk p), .int .i64 ((((sl p) : Nat) : Int)), .int .i64 ((((rnd ((sl p : Nat) : Int)) : Nat) : Int)), .int .i64 ((((sl p / 2) : Nat) : Int)), .int .i64 (bk p), .int .i64 ((ofP p).q6), .int .i64 ((ofP p).q7), .int .i64 ((ofP p).q8), .int .i64 ((ofP p).q9)]) (y_loadN (vs := [.int .i64 ((ofP p).q0), .int .i64 (bk p), .int .i64 ((((sl p) : Nat) : Int)), .int .i64 ((((rnd ((sl p : Nat) : Int)) : Nat) : Int)), .int .i64 ((((sl p / 2) : Nat) : Int)), .int .i64 (bk p), .int .i64 ((ofP p).q6), .int .i64 ((ofP p).q7), .int .i64 ((ofP p).q8), .int .i64 ((ofP p).q9)]) rfl Try.isAgg184 Try.sizeOf184 (ownN .h rfl)) rfl ?_
                      refine x_y (v := .pointer (some ⟨b_2, 1, none⟩)) (y_fieldAddr (o' := 1) rfl Try.underlying144 rfl Try.sizeOf3 (by decide) rfl) rfl ?_
                      refine x_y (v := .int .i64 (s.s1)) (y_load1 rfl Try.isAgg3 (own1 (.t .h) rfl)) rfl ?_
                      refine x_y (v := .pointer (some ⟨b_2, 2, none⟩)) (y_fieldAddr (o' := 2) rfl Try.underlying144 rfl Try.sizeOf3 (by decide) rfl) rfl ?_
                      refine x_y (v := .int .i64 (s.s2)) (y_load1 rfl Try.isAgg3 (own1 (.t .h) rfl)) rfl ?_
                      refine x_y (v := .int .i64 (prd (sl p) s.s1 s.s2)) (y_call (args := #[.agg #[.int .i64 ((ofP p).q0), .int .i64 (bk p), .int .i64 ((((sl p) : Nat) : Int)), .int .i64 ((((rnd ((sl p : Nat) : Int)) : Nat) : Int)), .int .i64 ((((sl p / 2) : Nat) : Int)), .int .i64 (bk p), .int .i64 ((ofP p).q6), .int .i64 ((ofP p).q7), .int .i64 ((ofP p).q8), .int .i64 ((ofP p).q9)], .int .i64 (s.s1), .int .i64 (s.s2)]) (v := .int .i64 (prd (sl p) s.s1 s.s2)) Try.call205 (ev3 rfl rfl rfl) (fun w hs => paired_c ((ofP p).q0) (bk p) (((rnd ((sl p : Nat) : Int)) : Nat) : Int) (bk p) ((ofP p).q6) ((ofP p).q7) ((ofP p).q8) ((ofP p).q9) (sl p) s.s1 s.s2 (by omega) (by omega) (far_s hok3 (by omega) (by omega)) (by omega) (by omega) (by omega) w)) rfl ?_
                      have hpd := prd_bd (w := sl p) (r := s.s1) (s := s.s2) (by omega) (by omega) (by omega) (by omega) (by omega)
                      refine x_y (v := .int .i64 (((ofP p).q8) + (prd (sl p) s.s1 s.s2))) (y_add (a := (ofP p).q8) (b := prd (sl p) s.s1 s.s2) (c := ((ofP p).q8) + (prd (sl p) s.s1 s.s2)) rfl rfl (wI rfl (by omega) (by omega))) rfl ?_
                      refine x_y (v := .int .i64 (((ofP p).q8) + (prd (sl p) s.s1 s.s2))) (y_assign rfl) rfl ?_
                      refine x_nil ?_
                      refine thenS_n ?_
                      refine wpS_ret ?_
                      refine blockS_r ?_
                      refine thenS_r ?_
                      refine fin1 (M := []) (v := .int .i64 (((ofP p).q8) + (prd (sl p) s.s1 s.s2))) (.inr rfl) (.nil) Try.results128 rfl ?_
                      exact fun w' hs => ⟨congrArg (fun z : Int => Ending.returned (.int .i64 z)) (mp_5 (by omega) (by omega) (by omega) (by omega) (by omega) (by omega) ).symm, hs⟩
                    · -- decide ((s.s1 : Int) ≤ (((rnd ((sl p : Nat) : Int)) : Nat) : Int)) false
                      have p41 := of_decide_eq_false b41
                      refine wpS_skip ?_
                      refine blockS_n ?_
                      refine thenS_n ?_
                      refine wpS_seq ?_
                      refine wpS_region ?_
                      refine s_y (v := .int .i64 (-1)) (y_assign rfl) rfl ?_
                      refine wpL_nil ?_
                      refine thenS_n ?_
                      refine wpS_ret ?_
                      refine fin1 (M := []) (v := .int .i64 (-1)) (.inr rfl) (.nil) Try.results128 rfl ?_
                      exact fun w' hs => ⟨congrArg (fun z : Int => Ending.returned (.int .i64 z)) (mp_6 (by omega) (by omega) (by omega) (by omega) (by omega) (by omega) ).symm, hs⟩
                  · -- decide ((s.s0 : Int) = 5) False
                    have p40 := of_decide_eq_false b40
                    refine s_no rfl rfl rfl rfl (b' := decide ((s.s0 : Int) = 5)) rfl b40 ?_
                    refine s_y (v := .bool false) (y_pickF (b := decide ((s.s0 : Int) = 5)) (v := .bool false) rfl b40 rfl) rfl ?_
                    refine s_y (v := .bool false) (y_assign rfl) rfl ?_
                    refine wpL_nil ?_
                    refine thenS_n ?_
                    refine wpS_cond_f rfl ?_
                    refine wpS_skip ?_
                    refine blockS_n ?_
                    refine thenS_n ?_
                    refine wpS_seq ?_
                    refine wpS_region ?_
                    refine s_y (v := .int .i64 (-1)) (y_assign rfl) rfl ?_
                    refine wpL_nil ?_
                    refine thenS_n ?_
                    refine wpS_ret ?_
                    refine fin1 (M := []) (v := .int .i64 (-1)) (.inr rfl) (.nil) Try.results128 rfl ?_
                    exact fun w' hs => ⟨congrArg (fun z : Int => Ending.returned (.int .i64 z)) (mp_6 (by omega) (by omega) (by omega) (by omega) (by omega) (by omega) ).symm, hs⟩
              · -- decide ((s.s0 : Int) = 4) False
                have p38 := of_decide_eq_false b38
                refine s_no rfl rfl rfl rfl (b' := decide ((s.s0 : Int) = 4)) rfl b38 ?_
                refine s_no rfl rfl rfl rfl (b' := decide ((s.s0 : Int) = 4)) rfl b38 ?_
                refine s_no rfl rfl rfl rfl (b' := decide ((s.s0 : Int) = 4)) rfl b38 ?_
                refine s_y (v := .bool false) (y_pickF (b := decide ((s.s0 : Int) = 4)) (v := .bool false) rfl b38 rfl) rfl ?_
                refine s_y (v := .bool false) (y_assign rfl) rfl ?_
                refine wpL_nil ?_
                refine thenS_n ?_
                refine wpS_cond_f rfl ?_
                refine wpS_seq ?_
                refine wpS_region ?_
                refine s_y (v := .pointer (some ⟨b_2, 0, none⟩)) (y_fieldAddr (o' := 0) rfl Try.underlying144 rfl Try.sizeOf3 (by decide) rfl) rfl ?_
                refine s_y (v := .int .i64 (s.s0)) (y_load1 rfl Try.isAgg3 (own1 (.t .h) rfl)) rfl ?_
                refine s_y (v := .bool (decide ((s.s0 : Int) = 5))) (y_eql (a := s.s0) (b := 5) rfl rfl rfl) rfl ?_
                refine s_y (v := .bool (decide ((s.s0 : Int) = 5))) (y_move rfl) rfl ?_
                rcases Bool.eq_false_or_eq_true (decide ((s.s0 : Int) = 5)) with b42 | b42
                · -- decide ((s.s0 : Int) = 5) True
                  have p42 := of_decide_eq_true b42
                  refine s_gy (y_move rfl) rfl rfl rfl rfl (b' := decide ((s.s0 : Int) = 5)) rfl b42 ?_
                  refine s_y (v := .bool (decide ((s.s1 : Int) ≤ (((rnd ((sl p : Nat) : Int)) : Nat) : Int)))) (y_pickT (b := decide ((s.s0 : Int) = 5)) (v := .bool (decide ((s.s1 : Int) ≤ (((rnd ((sl p : Nat) : Int)) : Nat) : Int)))) rfl b42 rfl) rfl ?_
                  refine s_y (v := .bool (decide ((s.s1 : Int) ≤ (((rnd ((sl p : Nat) : Int)) : Nat) : Int)))) (y_assign rfl) rfl ?_
                  refine wpL_nil ?_
                  refine thenS_n ?_
                  refine wpS_cond (t := decide ((s.s1 : Int) ≤ (((rnd ((sl p : Nat) : Int)) : Nat) : Int))) rfl (fun b43 => ?_) (fun b43 => ?_)
                  · -- decide ((s.s1 : Int) ≤ (((rnd ((sl p : Nat) : Int)) : Nat) : Int)) true
                    have p43 := of_decide_eq_true b43
                    refine wpS_seq ?_
                    refine wpS_lex (by kernel_rfl) (by kernel_rfl) ?_
                    refine x_y (v := .pointer (some ⟨b_3, 8, none⟩)) (y_fieldAddr (o' := 8) rfl Try.underlying184 rfl Try.sizeOf3 (by decide) rfl) rfl ?_
                    refine x_y (v := .int .i64 ((ofP p).q8)) (y_load1 rfl Try.isAgg3 (own1 .h rfl)) rfl ?_
                    refine x_y (v := .agg #[.int .i64 ((ofP p).q0), .int .i64 (bk p), .int .i64 ((((sl p) : Nat) : Int)), .int .i64 ((((rnd ((sl p : Nat) : Int)) : Nat) : Int)), .int .i64 ((((sl p / 2) : Nat) : Int)), .int .i64 (bk p), .int .i64 ((ofP p).q6), .int .i64 ((ofP p).q7), .int .i64 ((ofP p).q8), .int .i64 ((ofP p).q9)]) (y_loadN (vs := [.int .i64 ((ofP p).q0), .int .i64 (bk p), .int .i64 ((((sl p) : Nat) : Int)), .int .i64 ((((rnd ((sl p : Nat) : Int)) : Nat) : Int)), .int .i64 ((((sl p / 2) : Nat) : Int)), .int .i64 (bk p), .int .i64 ((ofP p).q6), .int .i64 ((ofP p).q7), .int .i64 ((ofP p).q8), .int .i64 ((ofP p).q9)]) rfl Try.isAgg184 Try.sizeOf184 (ownN .h rfl)) rfl ?_
                    refine x_y (v := .pointer (some ⟨b_2, 1, none⟩)) (y_fieldAddr (o' := 1) rfl Try.underlying144 rfl Try.sizeOf3 (by decide) rfl) rfl ?_
                    refine x_y (v := .int .i64 (s.s1)) (y_load1 rfl Try.isAgg3 (own1 (.t .h) rfl)) rfl ?_
                    refine x_y (v := .pointer (some ⟨b_2, 2, none⟩)) (y_fieldAddr (o' := 2) rfl Try.underlying144 rfl Try.sizeOf3 (by decide) rfl) rfl ?_
                    refine x_y (v := .int .i64 (s.s2)) (y_load1 rfl Try.isAgg3 (own1 (.t .h) rfl)) rfl ?_
                    refine x_y (v := .int .i64 (prd (sl p) s.s1 s.s2)) (y_call (args := #[.agg #[.int .i64 ((ofP p).q0), .int .i64 (bk p), .int .i64 ((((sl p) : Nat) : Int)), .int .i64 ((((rnd ((sl p : Nat) : Int)) : Nat) : Int)), .int .i64 ((((sl p / 2) : Nat) : Int)), .int .i64 (bk p), .int .i64 ((ofP p).q6), .int .i64 ((ofP p).q7), .int .i64 ((ofP p).q8), .int .i64 ((ofP p).q9)], .int .i64 (s.s1), .int .i64 (s.s2)]) (v := .int .i64 (prd (sl p) s.s1 s.s2)) Try.call205 (ev3 rfl rfl rfl) (fun w hs => paired_c ((ofP p).q0) (bk p) (((rnd ((sl p : Nat) : Int)) : Nat) : Int) (bk p) ((ofP p).q6) ((ofP p).q7) ((ofP p).q8) ((ofP p).q9) (sl p) s.s1 s.s2 (by omega) (by omega) (far_s hok3 (by omega) (by omega)) (by omega) (by omega) (by omega) w)) rfl ?_
                    have hpd := prd_bd (w := sl p) (r := s.s1) (s := s.s2) (by omega) (by omega) (by omega) (by omega) (by omega)
                    refine x_y (v := .int .i64 (((ofP p).q8) + (prd (sl p) s.s1 s.s2))) (y_add (a := (ofP p).q8) (b := prd (sl p) s.s1 s.s2) (c := ((ofP p).q8) + (prd (sl p) s.s1 s.s2)) rfl rfl (wI rfl (by omega) (by omega))) rfl ?_
                    refine x_y (v := .int .i64 (((ofP p).q8) + (prd (sl p) s.s1 s.s2))) (y_assign rfl) rfl ?_
                    refine x_nil ?_
                    refine thenS_n ?_
                    refine wpS_ret ?_
                    refine blockS_r ?_
                    refine thenS_r ?_
                    refine fin1 (M := []) (v := .int .i64 (((ofP p).q8) + (prd (sl p) s.s1 s.s2))) (.inr rfl) (.nil) Try.results128 rfl ?_
                    exact fun w' hs => ⟨congrArg (fun z : Int => Ending.returned (.int .i64 z)) (mp_5 (by omega) (by omega) (by omega) (by omega) (by omega) (by omega) ).symm, hs⟩
                  · -- decide ((s.s1 : Int) ≤ (((rnd ((sl p : Nat) : Int)) : Nat) : Int)) false
                    have p43 := of_decide_eq_false b43
                    refine wpS_skip ?_
                    refine blockS_n ?_
                    refine thenS_n ?_
                    refine wpS_seq ?_
                    refine wpS_region ?_
                    refine s_y (v := .int .i64 (-1)) (y_assign rfl) rfl ?_
                    refine wpL_nil ?_
                    refine thenS_n ?_
                    refine wpS_ret ?_
                    refine fin1 (M := []) (v := .int .i64 (-1)) (.inr rfl) (.nil) Try.results128 rfl ?_
                    exact fun w' hs => ⟨congrArg (fun z : Int => Ending.returned (.int .i64 z)) (mp_6 (by omega) (by omega) (by omega) (by omega) (by omega) (by omega) ).symm, hs⟩
                · -- decide ((s.s0 : Int) = 5) False
                  have p42 := of_decide_eq_false b42
                  refine s_no rfl rfl rfl rfl (b' := decide ((s.s0 : Int) = 5)) rfl b42 ?_
                  refine s_y (v := .bool false) (y_pickF (b := decide ((s.s0 : Int) = 5)) (v := .bool false) rfl b42 rfl) rfl ?_
                  refine s_y (v := .bool false) (y_assign rfl) rfl ?_
                  refine wpL_nil ?_
                  refine thenS_n ?_
                  refine wpS_cond_f rfl ?_
                  refine wpS_skip ?_
                  refine blockS_n ?_
                  refine thenS_n ?_
                  refine wpS_seq ?_
                  refine wpS_region ?_
                  refine s_y (v := .int .i64 (-1)) (y_assign rfl) rfl ?_
                  refine wpL_nil ?_
                  refine thenS_n ?_
                  refine wpS_ret ?_
                  refine fin1 (M := []) (v := .int .i64 (-1)) (.inr rfl) (.nil) Try.results128 rfl ?_
                  exact fun w' hs => ⟨congrArg (fun z : Int => Ending.returned (.int .i64 z)) (mp_6 (by omega) (by omega) (by omega) (by omega) (by omega) (by omega) ).symm, hs⟩
      · -- decide ((1 : Int) ≤ s.s1) False
        have p6 := of_decide_eq_false b6
        refine s_no rfl rfl rfl rfl (b' := decide ((1 : Int) ≤ s.s1)) rfl b6 ?_
        refine s_no rfl rfl rfl rfl (b' := decide ((1 : Int) ≤ s.s1)) rfl b6 ?_
        refine s_no rfl rfl rfl rfl (b' := decide ((1 : Int) ≤ s.s1)) rfl b6 ?_
        refine s_no rfl rfl rfl rfl (b' := decide ((1 : Int) ≤ s.s1)) rfl b6 ?_
        refine s_no rfl rfl rfl rfl (b' := decide ((1 : Int) ≤ s.s1)) rfl b6 ?_
        refine s_y (v := .bool false) (y_pickF (b := decide ((1 : Int) ≤ s.s1)) (v := .bool false) rfl b6 rfl) rfl ?_
        refine s_y (v := .bool false) (y_assign rfl) rfl ?_
        refine wpL_nil ?_
        refine thenS_n ?_
        refine wpS_seq ?_
        refine wpS_block ?_
        refine wpS_seq ?_
        refine wpS_region ?_
        refine s_y (v := .pointer (some ⟨b_2, 0, none⟩)) (y_fieldAddr (o' := 0) rfl Try.underlying144 rfl Try.sizeOf3 (by decide) rfl) rfl ?_
        refine s_y (v := .int .i64 (s.s0)) (y_load1 rfl Try.isAgg3 (own1 (.t .h) rfl)) rfl ?_
        refine s_y (v := .bool (decide ((s.s0 : Int) = 1))) (y_eql (a := s.s0) (b := 1) rfl rfl rfl) rfl ?_
        refine s_y (v := .bool (decide ((s.s0 : Int) = 1))) (y_move rfl) rfl ?_
        rcases Bool.eq_false_or_eq_true (decide ((s.s0 : Int) = 1)) with b44 | b44
        · -- decide ((s.s0 : Int) = 1) True
          have p44 := of_decide_eq_true b44
          refine s_gy (y_fieldAddr (o' := 1) rfl Try.underlying144 rfl Try.sizeOf3 (by decide) rfl) rfl rfl rfl rfl (b' := decide ((s.s0 : Int) = 1)) rfl b44 ?_
          refine s_gy (y_load1 rfl Try.isAgg3 (own1 (.t .h) rfl)) rfl rfl rfl rfl (b' := decide ((s.s0 : Int) = 1)) rfl b44 ?_
          refine s_gy (y_eql (a := s.s1) (b := 0) rfl rfl rfl) rfl rfl rfl rfl (b' := decide ((s.s0 : Int) = 1)) rfl b44 ?_
          refine s_y (v := .bool (decide ((s.s1 : Int) = 0))) (y_pickT (b := decide ((s.s0 : Int) = 1)) (v := .bool (decide ((s.s1 : Int) = 0))) rfl b44 rfl) rfl ?_
          refine s_y (v := .bool (decide ((s.s1 : Int) = 0))) (y_move rfl) rfl ?_
          rcases Bool.eq_false_or_eq_true (decide ((s.s1 : Int) = 0)) with b45 | b45
          · -- decide ((s.s1 : Int) = 0) True
            have p45 := of_decide_eq_true b45
            refine s_gy (y_fieldAddr (o' := 2) rfl Try.underlying144 rfl Try.sizeOf3 (by decide) rfl) rfl rfl rfl rfl (b' := decide ((s.s1 : Int) = 0)) rfl b45 ?_
            refine s_gy (y_load1 rfl Try.isAgg3 (own1 (.t .h) rfl)) rfl rfl rfl rfl (b' := decide ((s.s1 : Int) = 0)) rfl b45 ?_
            refine s_gy (y_fieldAddr (o' := 0) rfl Try.underlying184 rfl Try.sizeOf3 (by decide) rfl) rfl rfl rfl rfl (b' := decide ((s.s1 : Int) = 0)) rfl b45 ?_
            refine s_gy (y_load1 rfl Try.isAgg3 (own1 .h rfl)) rfl rfl rfl rfl (b' := decide ((s.s1 : Int) = 0)) rfl b45 ?_
            refine s_gy (y_fieldAddr (o' := 1) rfl Try.underlying184 rfl Try.sizeOf3 (by decide) rfl) rfl rfl rfl rfl (b' := decide ((s.s1 : Int) = 0)) rfl b45 ?_
            refine s_gy (y_load1 rfl Try.isAgg3 (own1 .h rfl)) rfl rfl rfl rfl (b' := decide ((s.s1 : Int) = 0)) rfl b45 ?_
            refine s_gy (y_mul (a := (ofP p).q0) (b := bk p) (c := (ofP p).q0 * bk p) rfl rfl (wI rfl (by omega) (by omega))) rfl rfl rfl rfl (b' := decide ((s.s1 : Int) = 0)) rfl b45 ?_
            refine s_gy (y_lss (a := s.s2) (b := (ofP p).q0 * bk p) rfl rfl rfl) rfl rfl rfl rfl (b' := decide ((s.s1 : Int) = 0)) rfl b45 ?_
            refine s_y (v := .bool (decide ((s.s2 : Int) < ((ofP p).q0 * bk p)))) (y_pickT (b := decide ((s.s1 : Int) = 0)) (v := .bool (decide ((s.s2 : Int) < ((ofP p).q0 * bk p)))) rfl b45 rfl) rfl ?_
            refine s_y (v := .bool (decide ((s.s2 : Int) < ((ofP p).q0 * bk p)))) (y_assign rfl) rfl ?_
            refine wpL_nil ?_
            refine thenS_n ?_
            refine wpS_cond (t := decide ((s.s2 : Int) < ((ofP p).q0 * bk p))) rfl (fun b46 => ?_) (fun b46 => ?_)
            · -- decide ((s.s2 : Int) < ((ofP p).q0 * bk p)) true
              have p46 := of_decide_eq_true b46
              refine wpS_seq ?_
              refine wpS_region ?_
              refine s_y (v := .pointer (some ⟨b_2, 2, none⟩)) (y_fieldAddr (o' := 2) rfl Try.underlying144 rfl Try.sizeOf3 (by decide) rfl) rfl ?_
              refine s_y (v := .int .i64 (s.s2)) (y_load1 rfl Try.isAgg3 (own1 (.t .h) rfl)) rfl ?_
              refine s_y (v := .pointer (some ⟨b_3, 0, none⟩)) (y_fieldAddr (o' := 0) rfl Try.underlying184 rfl Try.sizeOf3 (by decide) rfl) rfl ?_
              refine s_y (v := .int .i64 ((ofP p).q0)) (y_load1 rfl Try.isAgg3 (own1 .h rfl)) rfl ?_
              refine s_y (v := .int .i64 (s.s2 / (ofP p).q0)) (y_quo (a := s.s2) (b := (ofP p).q0) (c := s.s2 / (ofP p).q0) rfl rfl (by omega) (z_quo (by omega) (by omega) (by omega))) rfl ?_
              refine s_y (v := .int .i64 (s.s2 / (ofP p).q0)) (y_assign rfl) rfl ?_
              refine wpL_nil ?_
              refine thenS_n ?_
              refine wpS_ret ?_
              refine blockS_r ?_
              refine thenS_r ?_
              refine fin1 (M := []) (v := .int .i64 (s.s2 / (ofP p).q0)) (.inr rfl) (.nil) Try.results128 rfl ?_
              exact fun w' hs => ⟨congrArg (fun z : Int => Ending.returned (.int .i64 z)) (mp_1 (by omega) (by omega) ).symm, hs⟩
            · -- decide ((s.s2 : Int) < ((ofP p).q0 * bk p)) false
              have p46 := of_decide_eq_false b46
              refine wpS_seq ?_
              refine wpS_region ?_
              refine s_y (v := .pointer (some ⟨b_2, 0, none⟩)) (y_fieldAddr (o' := 0) rfl Try.underlying144 rfl Try.sizeOf3 (by decide) rfl) rfl ?_
              refine s_y (v := .int .i64 (s.s0)) (y_load1 rfl Try.isAgg3 (own1 (.t .h) rfl)) rfl ?_
              refine s_y (v := .bool (decide ((s.s0 : Int) = 1))) (y_eql (a := s.s0) (b := 1) rfl rfl rfl) rfl ?_
              refine s_y (v := .bool (decide ((s.s0 : Int) = 1))) (y_move rfl) rfl ?_
              refine s_gy (y_fieldAddr (o' := 1) rfl Try.underlying144 rfl Try.sizeOf3 (by decide) rfl) rfl rfl rfl rfl (b' := decide ((s.s0 : Int) = 1)) rfl b44 ?_
              refine s_gy (y_load1 rfl Try.isAgg3 (own1 (.t .h) rfl)) rfl rfl rfl rfl (b' := decide ((s.s0 : Int) = 1)) rfl b44 ?_
              refine s_gy (y_eql (a := s.s1) (b := 0) rfl rfl rfl) rfl rfl rfl rfl (b' := decide ((s.s0 : Int) = 1)) rfl b44 ?_
              refine s_y (v := .bool (decide ((s.s1 : Int) = 0))) (y_pickT (b := decide ((s.s0 : Int) = 1)) (v := .bool (decide ((s.s1 : Int) = 0))) rfl b44 rfl) rfl ?_
              refine s_y (v := .bool (decide ((s.s1 : Int) = 0))) (y_assign rfl) rfl ?_
              refine wpL_nil ?_
              refine thenS_n ?_
              refine wpS_cond_T (t := decide ((s.s1 : Int) = 0)) rfl b45 ?_
              refine wpS_seq ?_
              refine wpS_region ?_
              refine s_y (v := .pointer (some ⟨b_3, 5, none⟩)) (y_fieldAddr (o' := 5) rfl Try.underlying184 rfl Try.sizeOf3 (by decide) rfl) rfl ?_
              refine s_y (v := .int .i64 (bk p)) (y_load1 rfl Try.isAgg3 (own1 .h rfl)) rfl ?_
              refine s_y (v := .pointer (some ⟨b_2, 2, none⟩)) (y_fieldAddr (o' := 2) rfl Try.underlying144 rfl Try.sizeOf3 (by decide) rfl) rfl ?_
              refine s_y (v := .int .i64 (s.s2)) (y_load1 rfl Try.isAgg3 (own1 (.t .h) rfl)) rfl ?_
              refine s_y (v := .int .i64 ((bk p) + s.s2)) (y_add (a := bk p) (b := s.s2) (c := (bk p) + s.s2) rfl rfl (wI rfl (by omega) (by omega))) rfl ?_
              refine s_y (v := .pointer (some ⟨b_3, 0, none⟩)) (y_fieldAddr (o' := 0) rfl Try.underlying184 rfl Try.sizeOf3 (by decide) rfl) rfl ?_
              refine s_y (v := .int .i64 ((ofP p).q0)) (y_load1 rfl Try.isAgg3 (own1 .h rfl)) rfl ?_
              refine s_y (v := .pointer (some ⟨b_3, 1, none⟩)) (y_fieldAddr (o' := 1) rfl Try.underlying184 rfl Try.sizeOf3 (by decide) rfl) rfl ?_
              refine s_y (v := .int .i64 (bk p)) (y_load1 rfl Try.isAgg3 (own1 .h rfl)) rfl ?_
              refine s_y (v := .int .i64 ((ofP p).q0 * bk p)) (y_mul (a := (ofP p).q0) (b := bk p) (c := (ofP p).q0 * bk p) rfl rfl (wI rfl (by omega) (by omega))) rfl ?_
              refine s_y (v := .int .i64 (((bk p) + s.s2) - ((ofP p).q0 * bk p))) (y_sub (a := (bk p) + s.s2) (b := (ofP p).q0 * bk p) (c := ((bk p) + s.s2) - ((ofP p).q0 * bk p)) rfl rfl (wI rfl (by omega) (by omega))) rfl ?_
              refine s_y (v := .int .i64 (((bk p) + s.s2) - ((ofP p).q0 * bk p))) (y_assign rfl) rfl ?_
              refine wpL_nil ?_
              refine thenS_n ?_
              refine wpS_ret ?_
              refine blockS_r ?_
              refine thenS_r ?_
              refine fin1 (M := []) (v := .int .i64 (((bk p) + s.s2) - ((ofP p).q0 * bk p))) (.inr rfl) (.nil) Try.results128 rfl ?_
              exact fun w' hs => ⟨congrArg (fun z : Int => Ending.returned (.int .i64 z)) (mp_2 (by omega) (by omega) (by omega) ).symm, hs⟩
          · -- decide ((s.s1 : Int) = 0) False
            have p45 := of_decide_eq_false b45
            refine s_no rfl rfl rfl rfl (b' := decide ((s.s1 : Int) = 0)) rfl b45 ?_
            refine s_no rfl rfl rfl rfl (b' := decide ((s.s1 : Int) = 0)) rfl b45 ?_
            refine s_no rfl rfl rfl rfl (b' := decide ((s.s1 : Int) = 0)) rfl b45 ?_
            refine s_no rfl rfl rfl rfl (b' := decide ((s.s1 : Int) = 0)) rfl b45 ?_
            refine s_no rfl rfl rfl rfl (b' := decide ((s.s1 : Int) = 0)) rfl b45 ?_
            refine s_no rfl rfl rfl rfl (b' := decide ((s.s1 : Int) = 0)) rfl b45 ?_
            refine s_no rfl rfl rfl rfl (b' := decide ((s.s1 : Int) = 0)) rfl b45 ?_
            refine s_no rfl rfl rfl rfl (b' := decide ((s.s1 : Int) = 0)) rfl b45 ?_
            refine s_y (v := .bool false) (y_pickF (b := decide ((s.s1 : Int) = 0)) (v := .bool false) rfl b45 rfl) rfl ?_
            refine s_y (v := .bool false) (y_assign rfl) rfl ?_
            refine wpL_nil ?_
            refine thenS_n ?_
            refine wpS_cond_f rfl ?_
            refine wpS_seq ?_
            refine wpS_region ?_
            refine s_y (v := .pointer (some ⟨b_2, 0, none⟩)) (y_fieldAddr (o' := 0) rfl Try.underlying144 rfl Try.sizeOf3 (by decide) rfl) rfl ?_
            refine s_y (v := .int .i64 (s.s0)) (y_load1 rfl Try.isAgg3 (own1 (.t .h) rfl)) rfl ?_
            refine s_y (v := .bool (decide ((s.s0 : Int) = 1))) (y_eql (a := s.s0) (b := 1) rfl rfl rfl) rfl ?_
            refine s_y (v := .bool (decide ((s.s0 : Int) = 1))) (y_move rfl) rfl ?_
            refine s_gy (y_fieldAddr (o' := 1) rfl Try.underlying144 rfl Try.sizeOf3 (by decide) rfl) rfl rfl rfl rfl (b' := decide ((s.s0 : Int) = 1)) rfl b44 ?_
            refine s_gy (y_load1 rfl Try.isAgg3 (own1 (.t .h) rfl)) rfl rfl rfl rfl (b' := decide ((s.s0 : Int) = 1)) rfl b44 ?_
            refine s_gy (y_eql (a := s.s1) (b := 0) rfl rfl rfl) rfl rfl rfl rfl (b' := decide ((s.s0 : Int) = 1)) rfl b44 ?_
            refine s_y (v := .bool (decide ((s.s1 : Int) = 0))) (y_pickT (b := decide ((s.s0 : Int) = 1)) (v := .bool (decide ((s.s1 : Int) = 0))) rfl b44 rfl) rfl ?_
            refine s_y (v := .bool (decide ((s.s1 : Int) = 0))) (y_assign rfl) rfl ?_
            refine wpL_nil ?_
            refine thenS_n ?_
            refine wpS_cond_F (t := decide ((s.s1 : Int) = 0)) rfl b45 ?_
            refine wpS_seq ?_
            refine wpS_region ?_
            refine s_y (v := .pointer (some ⟨b_2, 0, none⟩)) (y_fieldAddr (o' := 0) rfl Try.underlying144 rfl Try.sizeOf3 (by decide) rfl) rfl ?_
            refine s_y (v := .int .i64 (s.s0)) (y_load1 rfl Try.isAgg3 (own1 (.t .h) rfl)) rfl ?_
            refine s_y (v := .bool (decide ((s.s0 : Int) = 2))) (y_eql (a := s.s0) (b := 2) rfl rfl rfl) rfl ?_
            refine s_y (v := .bool (decide ((s.s0 : Int) = 2))) (y_move rfl) rfl ?_
            rcases Bool.eq_false_or_eq_true (decide ((s.s0 : Int) = 2)) with b47 | b47
            · -- decide ((s.s0 : Int) = 2) True
              have p47 := of_decide_eq_true b47
              refine s_gy (y_move rfl) rfl rfl rfl rfl (b' := decide ((s.s0 : Int) = 2)) rfl b47 ?_
              refine s_y (v := .bool false) (y_pickT (b := decide ((s.s0 : Int) = 2)) (v := .bool false) rfl b47 rfl) rfl ?_
              refine s_y (v := .bool false) (y_assign rfl) rfl ?_
              refine wpL_nil ?_
              refine thenS_n ?_
              refine wpS_cond_f rfl ?_
              refine wpS_seq ?_
              refine wpS_region ?_
              refine s_y (v := .pointer (some ⟨b_2, 0, none⟩)) (y_fieldAddr (o' := 0) rfl Try.underlying144 rfl Try.sizeOf3 (by decide) rfl) rfl ?_
              refine s_y (v := .int .i64 (s.s0)) (y_load1 rfl Try.isAgg3 (own1 (.t .h) rfl)) rfl ?_
              refine s_y (v := .bool (decide ((s.s0 : Int) = 3))) (y_eql (a := s.s0) (b := 3) rfl rfl rfl) rfl ?_
              refine s_y (v := .bool (decide ((s.s0 : Int) = 3))) (y_move rfl) rfl ?_
              rcases Bool.eq_false_or_eq_true (decide ((s.s0 : Int) = 3)) with b48 | b48
              · -- decide ((s.s0 : Int) = 3) True
                have p48 := of_decide_eq_true b48
                refine s_no rfl rfl rfl rfl (b' := decide ((s.s0 : Int) = 3)) rfl b48 ?_
                refine s_no rfl rfl rfl rfl (b' := decide ((s.s0 : Int) = 3)) rfl b48 ?_
                refine s_no rfl rfl rfl rfl (b' := decide ((s.s0 : Int) = 3)) rfl b48 ?_
                refine s_y (v := .bool true) (y_pickT (b := decide ((s.s0 : Int) = 3)) (v := .bool true) rfl b48 rfl) rfl ?_
                refine s_y (v := .bool true) (y_move rfl) rfl ?_
                refine s_gy (y_fieldAddr (o' := 1) rfl Try.underlying144 rfl Try.sizeOf3 (by decide) rfl) rfl rfl rfl rfl rfl rfl ?_
                refine s_gy (y_load1 rfl Try.isAgg3 (own1 (.t .h) rfl)) rfl rfl rfl rfl rfl rfl ?_
                refine s_gy (y_eql (a := s.s1) (b := 0) rfl rfl rfl) rfl rfl rfl rfl rfl rfl ?_
                refine s_y (v := .bool (decide ((s.s1 : Int) = 0))) (y_pickT (v := .bool (decide ((s.s1 : Int) = 0))) rfl rfl rfl) rfl ?_
                refine s_y (v := .bool (decide ((s.s1 : Int) = 0))) (y_assign rfl) rfl ?_
                refine wpL_nil ?_
                refine thenS_n ?_
                refine wpS_cond_F (t := decide ((s.s1 : Int) = 0)) rfl b45 ?_
                refine wpS_seq ?_
                refine wpS_region ?_
                refine s_y (v := .pointer (some ⟨b_2, 0, none⟩)) (y_fieldAddr (o' := 0) rfl Try.underlying144 rfl Try.sizeOf3 (by decide) rfl) rfl ?_
                refine s_y (v := .int .i64 (s.s0)) (y_load1 rfl Try.isAgg3 (own1 (.t .h) rfl)) rfl ?_
                refine s_y (v := .bool (decide ((s.s0 : Int) = 5))) (y_eql (a := s.s0) (b := 5) rfl rfl rfl) rfl ?_
                refine s_y (v := .bool (decide ((s.s0 : Int) = 5))) (y_move rfl) rfl ?_
                rcases Bool.eq_false_or_eq_true (decide ((s.s0 : Int) = 5)) with b49 | b49
                · -- decide ((s.s0 : Int) = 5) True
                  have p49 := of_decide_eq_true b49
                  refine s_gy (y_move rfl) rfl rfl rfl rfl (b' := decide ((s.s0 : Int) = 5)) rfl b49 ?_
                  refine s_y (v := .bool false) (y_pickT (b := decide ((s.s0 : Int) = 5)) (v := .bool false) rfl b49 rfl) rfl ?_
                  refine s_y (v := .bool false) (y_assign rfl) rfl ?_
                  refine wpL_nil ?_
                  refine thenS_n ?_
                  refine wpS_cond_f rfl ?_
                  refine wpS_skip ?_
                  refine blockS_n ?_
                  refine thenS_n ?_
                  refine wpS_seq ?_
                  refine wpS_region ?_
                  refine s_y (v := .int .i64 (-1)) (y_assign rfl) rfl ?_
                  refine wpL_nil ?_
                  refine thenS_n ?_
                  refine wpS_ret ?_
                  refine fin1 (M := []) (v := .int .i64 (-1)) (.inr rfl) (.nil) Try.results128 rfl ?_
                  exact fun w' hs => ⟨congrArg (fun z : Int => Ending.returned (.int .i64 z)) (mp_6 (by omega) (by omega) (by omega) (by omega) (by omega) (by omega) ).symm, hs⟩
                · -- decide ((s.s0 : Int) = 5) False
                  have p49 := of_decide_eq_false b49
                  refine s_no rfl rfl rfl rfl (b' := decide ((s.s0 : Int) = 5)) rfl b49 ?_
                  refine s_y (v := .bool false) (y_pickF (b := decide ((s.s0 : Int) = 5)) (v := .bool false) rfl b49 rfl) rfl ?_
                  refine s_y (v := .bool false) (y_assign rfl) rfl ?_
                  refine wpL_nil ?_
                  refine thenS_n ?_
                  refine wpS_cond_f rfl ?_
                  refine wpS_skip ?_
                  refine blockS_n ?_
                  refine thenS_n ?_
                  refine wpS_seq ?_
                  refine wpS_region ?_
                  refine s_y (v := .int .i64 (-1)) (y_assign rfl) rfl ?_
                  refine wpL_nil ?_
                  refine thenS_n ?_
                  refine wpS_ret ?_
                  refine fin1 (M := []) (v := .int .i64 (-1)) (.inr rfl) (.nil) Try.results128 rfl ?_
                  exact fun w' hs => ⟨congrArg (fun z : Int => Ending.returned (.int .i64 z)) (mp_6 (by omega) (by omega) (by omega) (by omega) (by omega) (by omega) ).symm, hs⟩
              · -- decide ((s.s0 : Int) = 3) False
                have p48 := of_decide_eq_false b48
                refine s_gy (y_fieldAddr (o' := 0) rfl Try.underlying144 rfl Try.sizeOf3 (by decide) rfl) rfl rfl rfl rfl (b' := decide ((s.s0 : Int) = 3)) rfl b48 ?_
                refine s_gy (y_load1 rfl Try.isAgg3 (own1 (.t .h) rfl)) rfl rfl rfl rfl (b' := decide ((s.s0 : Int) = 3)) rfl b48 ?_
                refine s_gy (y_eql (a := s.s0) (b := 4) rfl rfl rfl) rfl rfl rfl rfl (b' := decide ((s.s0 : Int) = 3)) rfl b48 ?_
                refine s_y (v := .bool (decide ((s.s0 : Int) = 4))) (y_pickF (b := decide ((s.s0 : Int) = 3)) (v := .bool (decide ((s.s0 : Int) = 4))) rfl b48 rfl) rfl ?_
                refine s_y (v := .bool (decide ((s.s0 : Int) = 4))) (y_move rfl) rfl ?_
                rcases Bool.eq_false_or_eq_true (decide ((s.s0 : Int) = 4)) with b50 | b50
                · -- decide ((s.s0 : Int) = 4) True
                  have p50 := of_decide_eq_true b50
                  refine s_gy (y_fieldAddr (o' := 1) rfl Try.underlying144 rfl Try.sizeOf3 (by decide) rfl) rfl rfl rfl rfl (b' := decide ((s.s0 : Int) = 4)) rfl b50 ?_
                  refine s_gy (y_load1 rfl Try.isAgg3 (own1 (.t .h) rfl)) rfl rfl rfl rfl (b' := decide ((s.s0 : Int) = 4)) rfl b50 ?_
                  refine s_gy (y_eql (a := s.s1) (b := 0) rfl rfl rfl) rfl rfl rfl rfl (b' := decide ((s.s0 : Int) = 4)) rfl b50 ?_
                  refine s_y (v := .bool (decide ((s.s1 : Int) = 0))) (y_pickT (b := decide ((s.s0 : Int) = 4)) (v := .bool (decide ((s.s1 : Int) = 0))) rfl b50 rfl) rfl ?_
                  refine s_y (v := .bool (decide ((s.s1 : Int) = 0))) (y_assign rfl) rfl ?_
                  refine wpL_nil ?_
                  refine thenS_n ?_
                  refine wpS_cond_F (t := decide ((s.s1 : Int) = 0)) rfl b45 ?_
                  refine wpS_seq ?_
                  refine wpS_region ?_
                  refine s_y (v := .pointer (some ⟨b_2, 0, none⟩)) (y_fieldAddr (o' := 0) rfl Try.underlying144 rfl Try.sizeOf3 (by decide) rfl) rfl ?_
                  refine s_y (v := .int .i64 (s.s0)) (y_load1 rfl Try.isAgg3 (own1 (.t .h) rfl)) rfl ?_
                  refine s_y (v := .bool (decide ((s.s0 : Int) = 5))) (y_eql (a := s.s0) (b := 5) rfl rfl rfl) rfl ?_
                  refine s_y (v := .bool (decide ((s.s0 : Int) = 5))) (y_move rfl) rfl ?_
                  rcases Bool.eq_false_or_eq_true (decide ((s.s0 : Int) = 5)) with b51 | b51
                  · -- decide ((s.s0 : Int) = 5) True
                    have p51 := of_decide_eq_true b51
                    refine s_gy (y_move rfl) rfl rfl rfl rfl (b' := decide ((s.s0 : Int) = 5)) rfl b51 ?_
                    refine s_y (v := .bool false) (y_pickT (b := decide ((s.s0 : Int) = 5)) (v := .bool false) rfl b51 rfl) rfl ?_
                    refine s_y (v := .bool false) (y_assign rfl) rfl ?_
                    refine wpL_nil ?_
                    refine thenS_n ?_
                    refine wpS_cond_f rfl ?_
                    refine wpS_skip ?_
                    refine blockS_n ?_
                    refine thenS_n ?_
                    refine wpS_seq ?_
                    refine wpS_region ?_
                    refine s_y (v := .int .i64 (-1)) (y_assign rfl) rfl ?_
                    refine wpL_nil ?_
                    refine thenS_n ?_
                    refine wpS_ret ?_
                    refine fin1 (M := []) (v := .int .i64 (-1)) (.inr rfl) (.nil) Try.results128 rfl ?_
                    exact fun w' hs => ⟨congrArg (fun z : Int => Ending.returned (.int .i64 z)) (mp_6 (by omega) (by omega) (by omega) (by omega) (by omega) (by omega) ).symm, hs⟩
                  · -- decide ((s.s0 : Int) = 5) False
                    have p51 := of_decide_eq_false b51
                    refine s_no rfl rfl rfl rfl (b' := decide ((s.s0 : Int) = 5)) rfl b51 ?_
                    refine s_y (v := .bool false) (y_pickF (b := decide ((s.s0 : Int) = 5)) (v := .bool false) rfl b51 rfl) rfl ?_
                    refine s_y (v := .bool false) (y_assign rfl) rfl ?_
                    refine wpL_nil ?_
                    refine thenS_n ?_
                    refine wpS_cond_f rfl ?_
                    refine wpS_skip ?_
                    refine blockS_n ?_
                    refine thenS_n ?_
                    refine wpS_seq ?_
                    refine wpS_region ?_
                    refine s_y (v := .int .i64 (-1)) (y_assign rfl) rfl ?_
                    refine wpL_nil ?_
                    refine thenS_n ?_
                    refine wpS_ret ?_
                    refine fin1 (M := []) (v := .int .i64 (-1)) (.inr rfl) (.nil) Try.results128 rfl ?_
                    exact fun w' hs => ⟨congrArg (fun z : Int => Ending.returned (.int .i64 z)) (mp_6 (by omega) (by omega) (by omega) (by omega) (by omega) (by omega) ).symm, hs⟩
                · -- decide ((s.s0 : Int) = 4) False
                  have p50 := of_decide_eq_false b50
                  refine s_no rfl rfl rfl rfl (b' := decide ((s.s0 : Int) = 4)) rfl b50 ?_
                  refine s_no rfl rfl rfl rfl (b' := decide ((s.s0 : Int) = 4)) rfl b50 ?_
                  refine s_no rfl rfl rfl rfl (b' := decide ((s.s0 : Int) = 4)) rfl b50 ?_
                  refine s_y (v := .bool false) (y_pickF (b := decide ((s.s0 : Int) = 4)) (v := .bool false) rfl b50 rfl) rfl ?_
                  refine s_y (v := .bool false) (y_assign rfl) rfl ?_
                  refine wpL_nil ?_
                  refine thenS_n ?_
                  refine wpS_cond_f rfl ?_
                  refine wpS_seq ?_
                  refine wpS_region ?_
                  refine s_y (v := .pointer (some ⟨b_2, 0, none⟩)) (y_fieldAddr (o' := 0) rfl Try.underlying144 rfl Try.sizeOf3 (by decide) rfl) rfl ?_
                  refine s_y (v := .int .i64 (s.s0)) (y_load1 rfl Try.isAgg3 (own1 (.t .h) rfl)) rfl ?_
                  refine s_y (v := .bool (decide ((s.s0 : Int) = 5))) (y_eql (a := s.s0) (b := 5) rfl rfl rfl) rfl ?_
                  refine s_y (v := .bool (decide ((s.s0 : Int) = 5))) (y_move rfl) rfl ?_
                  rcases Bool.eq_false_or_eq_true (decide ((s.s0 : Int) = 5)) with b52 | b52
                  · -- decide ((s.s0 : Int) = 5) True
                    have p52 := of_decide_eq_true b52
                    refine s_gy (y_move rfl) rfl rfl rfl rfl (b' := decide ((s.s0 : Int) = 5)) rfl b52 ?_
                    refine s_y (v := .bool false) (y_pickT (b := decide ((s.s0 : Int) = 5)) (v := .bool false) rfl b52 rfl) rfl ?_
                    refine s_y (v := .bool false) (y_assign rfl) rfl ?_
                    refine wpL_nil ?_
                    refine thenS_n ?_
                    refine wpS_cond_f rfl ?_
                    refine wpS_skip ?_
                    refine blockS_n ?_
                    refine thenS_n ?_
                    refine wpS_seq ?_
                    refine wpS_region ?_
                    refine s_y (v := .int .i64 (-1)) (y_assign rfl) rfl ?_
                    refine wpL_nil ?_
                    refine thenS_n ?_
                    refine wpS_ret ?_
                    refine fin1 (M := []) (v := .int .i64 (-1)) (.inr rfl) (.nil) Try.results128 rfl ?_
                    exact fun w' hs => ⟨congrArg (fun z : Int => Ending.returned (.int .i64 z)) (mp_6 (by omega) (by omega) (by omega) (by omega) (by omega) (by omega) ).symm, hs⟩
                  · -- decide ((s.s0 : Int) = 5) False
                    have p52 := of_decide_eq_false b52
                    refine s_no rfl rfl rfl rfl (b' := decide ((s.s0 : Int) = 5)) rfl b52 ?_
                    refine s_y (v := .bool false) (y_pickF (b := decide ((s.s0 : Int) = 5)) (v := .bool false) rfl b52 rfl) rfl ?_
                    refine s_y (v := .bool false) (y_assign rfl) rfl ?_
                    refine wpL_nil ?_
                    refine thenS_n ?_
                    refine wpS_cond_f rfl ?_
                    refine wpS_skip ?_
                    refine blockS_n ?_
                    refine thenS_n ?_
                    refine wpS_seq ?_
                    refine wpS_region ?_
                    refine s_y (v := .int .i64 (-1)) (y_assign rfl) rfl ?_
                    refine wpL_nil ?_
                    refine thenS_n ?_
                    refine wpS_ret ?_
                    refine fin1 (M := []) (v := .int .i64 (-1)) (.inr rfl) (.nil) Try.results128 rfl ?_
                    exact fun w' hs => ⟨congrArg (fun z : Int => Ending.returned (.int .i64 z)) (mp_6 (by omega) (by omega) (by omega) (by omega) (by omega) (by omega) ).symm, hs⟩
            · -- decide ((s.s0 : Int) = 2) False
              have p47 := of_decide_eq_false b47
              refine s_no rfl rfl rfl rfl (b' := decide ((s.s0 : Int) = 2)) rfl b47 ?_
              refine s_y (v := .bool false) (y_pickF (b := decide ((s.s0 : Int) = 2)) (v := .bool false) rfl b47 rfl) rfl ?_
              refine s_y (v := .bool false) (y_assign rfl) rfl ?_
              refine wpL_nil ?_
              refine thenS_n ?_
              refine wpS_cond_f rfl ?_
              refine wpS_seq ?_
              refine wpS_region ?_
              refine s_y (v := .pointer (some ⟨b_2, 0, none⟩)) (y_fieldAddr (o' := 0) rfl Try.underlying144 rfl Try.sizeOf3 (by decide) rfl) rfl ?_
              refine s_y (v := .int .i64 (s.s0)) (y_load1 rfl Try.isAgg3 (own1 (.t .h) rfl)) rfl ?_
              refine s_y (v := .bool (decide ((s.s0 : Int) = 3))) (y_eql (a := s.s0) (b := 3) rfl rfl rfl) rfl ?_
              refine s_y (v := .bool (decide ((s.s0 : Int) = 3))) (y_move rfl) rfl ?_
              rcases Bool.eq_false_or_eq_true (decide ((s.s0 : Int) = 3)) with b53 | b53
              · -- decide ((s.s0 : Int) = 3) True
                have p53 := of_decide_eq_true b53
                refine s_no rfl rfl rfl rfl (b' := decide ((s.s0 : Int) = 3)) rfl b53 ?_
                refine s_no rfl rfl rfl rfl (b' := decide ((s.s0 : Int) = 3)) rfl b53 ?_
                refine s_no rfl rfl rfl rfl (b' := decide ((s.s0 : Int) = 3)) rfl b53 ?_
                refine s_y (v := .bool true) (y_pickT (b := decide ((s.s0 : Int) = 3)) (v := .bool true) rfl b53 rfl) rfl ?_
                refine s_y (v := .bool true) (y_move rfl) rfl ?_
                refine s_gy (y_fieldAddr (o' := 1) rfl Try.underlying144 rfl Try.sizeOf3 (by decide) rfl) rfl rfl rfl rfl rfl rfl ?_
                refine s_gy (y_load1 rfl Try.isAgg3 (own1 (.t .h) rfl)) rfl rfl rfl rfl rfl rfl ?_
                refine s_gy (y_eql (a := s.s1) (b := 0) rfl rfl rfl) rfl rfl rfl rfl rfl rfl ?_
                refine s_y (v := .bool (decide ((s.s1 : Int) = 0))) (y_pickT (v := .bool (decide ((s.s1 : Int) = 0))) rfl rfl rfl) rfl ?_
                refine s_y (v := .bool (decide ((s.s1 : Int) = 0))) (y_assign rfl) rfl ?_
                refine wpL_nil ?_
                refine thenS_n ?_
                refine wpS_cond_F (t := decide ((s.s1 : Int) = 0)) rfl b45 ?_
                refine wpS_seq ?_
                refine wpS_region ?_
                refine s_y (v := .pointer (some ⟨b_2, 0, none⟩)) (y_fieldAddr (o' := 0) rfl Try.underlying144 rfl Try.sizeOf3 (by decide) rfl) rfl ?_
                refine s_y (v := .int .i64 (s.s0)) (y_load1 rfl Try.isAgg3 (own1 (.t .h) rfl)) rfl ?_
                refine s_y (v := .bool (decide ((s.s0 : Int) = 5))) (y_eql (a := s.s0) (b := 5) rfl rfl rfl) rfl ?_
                refine s_y (v := .bool (decide ((s.s0 : Int) = 5))) (y_move rfl) rfl ?_
                rcases Bool.eq_false_or_eq_true (decide ((s.s0 : Int) = 5)) with b54 | b54
                · -- decide ((s.s0 : Int) = 5) True
                  have p54 := of_decide_eq_true b54
                  refine s_gy (y_move rfl) rfl rfl rfl rfl (b' := decide ((s.s0 : Int) = 5)) rfl b54 ?_
                  refine s_y (v := .bool false) (y_pickT (b := decide ((s.s0 : Int) = 5)) (v := .bool false) rfl b54 rfl) rfl ?_
                  refine s_y (v := .bool false) (y_assign rfl) rfl ?_
                  refine wpL_nil ?_
                  refine thenS_n ?_
                  refine wpS_cond_f rfl ?_
                  refine wpS_skip ?_
                  refine blockS_n ?_
                  refine thenS_n ?_
                  refine wpS_seq ?_
                  refine wpS_region ?_
                  refine s_y (v := .int .i64 (-1)) (y_assign rfl) rfl ?_
                  refine wpL_nil ?_
                  refine thenS_n ?_
                  refine wpS_ret ?_
                  refine fin1 (M := []) (v := .int .i64 (-1)) (.inr rfl) (.nil) Try.results128 rfl ?_
                  exact fun w' hs => ⟨congrArg (fun z : Int => Ending.returned (.int .i64 z)) (mp_6 (by omega) (by omega) (by omega) (by omega) (by omega) (by omega) ).symm, hs⟩
                · -- decide ((s.s0 : Int) = 5) False
                  have p54 := of_decide_eq_false b54
                  refine s_no rfl rfl rfl rfl (b' := decide ((s.s0 : Int) = 5)) rfl b54 ?_
                  refine s_y (v := .bool false) (y_pickF (b := decide ((s.s0 : Int) = 5)) (v := .bool false) rfl b54 rfl) rfl ?_
                  refine s_y (v := .bool false) (y_assign rfl) rfl ?_
                  refine wpL_nil ?_
                  refine thenS_n ?_
                  refine wpS_cond_f rfl ?_
                  refine wpS_skip ?_
                  refine blockS_n ?_
                  refine thenS_n ?_
                  refine wpS_seq ?_
                  refine wpS_region ?_
                  refine s_y (v := .int .i64 (-1)) (y_assign rfl) rfl ?_
                  refine wpL_nil ?_
                  refine thenS_n ?_
                  refine wpS_ret ?_
                  refine fin1 (M := []) (v := .int .i64 (-1)) (.inr rfl) (.nil) Try.results128 rfl ?_
                  exact fun w' hs => ⟨congrArg (fun z : Int => Ending.returned (.int .i64 z)) (mp_6 (by omega) (by omega) (by omega) (by omega) (by omega) (by omega) ).symm, hs⟩
              · -- decide ((s.s0 : Int) = 3) False
                have p53 := of_decide_eq_false b53
                refine s_gy (y_fieldAddr (o' := 0) rfl Try.underlying144 rfl Try.sizeOf3 (by decide) rfl) rfl rfl rfl rfl (b' := decide ((s.s0 : Int) = 3)) rfl b53 ?_
                refine s_gy (y_load1 rfl Try.isAgg3 (own1 (.t .h) rfl)) rfl rfl rfl rfl (b' := decide ((s.s0 : Int) = 3)) rfl b53 ?_
                refine s_gy (y_eql (a := s.s0) (b := 4) rfl rfl rfl) rfl rfl rfl rfl (b' := decide ((s.s0 : Int) = 3)) rfl b53 ?_
                refine s_y (v := .bool (decide ((s.s0 : Int) = 4))) (y_pickF (b := decide ((s.s0 : Int) = 3)) (v := .bool (decide ((s.s0 : Int) = 4))) rfl b53 rfl) rfl ?_
                refine s_y (v := .bool (decide ((s.s0 : Int) = 4))) (y_move rfl) rfl ?_
                rcases Bool.eq_false_or_eq_true (decide ((s.s0 : Int) = 4)) with b55 | b55
                · -- decide ((s.s0 : Int) = 4) True
                  have p55 := of_decide_eq_true b55
                  refine s_gy (y_fieldAddr (o' := 1) rfl Try.underlying144 rfl Try.sizeOf3 (by decide) rfl) rfl rfl rfl rfl (b' := decide ((s.s0 : Int) = 4)) rfl b55 ?_
                  refine s_gy (y_load1 rfl Try.isAgg3 (own1 (.t .h) rfl)) rfl rfl rfl rfl (b' := decide ((s.s0 : Int) = 4)) rfl b55 ?_
                  refine s_gy (y_eql (a := s.s1) (b := 0) rfl rfl rfl) rfl rfl rfl rfl (b' := decide ((s.s0 : Int) = 4)) rfl b55 ?_
                  refine s_y (v := .bool (decide ((s.s1 : Int) = 0))) (y_pickT (b := decide ((s.s0 : Int) = 4)) (v := .bool (decide ((s.s1 : Int) = 0))) rfl b55 rfl) rfl ?_
                  refine s_y (v := .bool (decide ((s.s1 : Int) = 0))) (y_assign rfl) rfl ?_
                  refine wpL_nil ?_
                  refine thenS_n ?_
                  refine wpS_cond_F (t := decide ((s.s1 : Int) = 0)) rfl b45 ?_
                  refine wpS_seq ?_
                  refine wpS_region ?_
                  refine s_y (v := .pointer (some ⟨b_2, 0, none⟩)) (y_fieldAddr (o' := 0) rfl Try.underlying144 rfl Try.sizeOf3 (by decide) rfl) rfl ?_
                  refine s_y (v := .int .i64 (s.s0)) (y_load1 rfl Try.isAgg3 (own1 (.t .h) rfl)) rfl ?_
                  refine s_y (v := .bool (decide ((s.s0 : Int) = 5))) (y_eql (a := s.s0) (b := 5) rfl rfl rfl) rfl ?_
                  refine s_y (v := .bool (decide ((s.s0 : Int) = 5))) (y_move rfl) rfl ?_
                  rcases Bool.eq_false_or_eq_true (decide ((s.s0 : Int) = 5)) with b56 | b56
                  · -- decide ((s.s0 : Int) = 5) True
                    have p56 := of_decide_eq_true b56
                    refine s_gy (y_move rfl) rfl rfl rfl rfl (b' := decide ((s.s0 : Int) = 5)) rfl b56 ?_
                    refine s_y (v := .bool false) (y_pickT (b := decide ((s.s0 : Int) = 5)) (v := .bool false) rfl b56 rfl) rfl ?_
                    refine s_y (v := .bool false) (y_assign rfl) rfl ?_
                    refine wpL_nil ?_
                    refine thenS_n ?_
                    refine wpS_cond_f rfl ?_
                    refine wpS_skip ?_
                    refine blockS_n ?_
                    refine thenS_n ?_
                    refine wpS_seq ?_
                    refine wpS_region ?_
                    refine s_y (v := .int .i64 (-1)) (y_assign rfl) rfl ?_
                    refine wpL_nil ?_
                    refine thenS_n ?_
                    refine wpS_ret ?_
                    refine fin1 (M := []) (v := .int .i64 (-1)) (.inr rfl) (.nil) Try.results128 rfl ?_
                    exact fun w' hs => ⟨congrArg (fun z : Int => Ending.returned (.int .i64 z)) (mp_6 (by omega) (by omega) (by omega) (by omega) (by omega) (by omega) ).symm, hs⟩
                  · -- decide ((s.s0 : Int) = 5) False
                    have p56 := of_decide_eq_false b56
                    refine s_no rfl rfl rfl rfl (b' := decide ((s.s0 : Int) = 5)) rfl b56 ?_
                    refine s_y (v := .bool false) (y_pickF (b := decide ((s.s0 : Int) = 5)) (v := .bool false) rfl b56 rfl) rfl ?_
                    refine s_y (v := .bool false) (y_assign rfl) rfl ?_
                    refine wpL_nil ?_
                    refine thenS_n ?_
                    refine wpS_cond_f rfl ?_
                    refine wpS_skip ?_
                    refine blockS_n ?_
                    refine thenS_n ?_
                    refine wpS_seq ?_
                    refine wpS_region ?_
                    refine s_y (v := .int .i64 (-1)) (y_assign rfl) rfl ?_
                    refine wpL_nil ?_
                    refine thenS_n ?_
                    refine wpS_ret ?_
                    refine fin1 (M := []) (v := .int .i64 (-1)) (.inr rfl) (.nil) Try.results128 rfl ?_
                    exact fun w' hs => ⟨congrArg (fun z : Int => Ending.returned (.int .i64 z)) (mp_6 (by omega) (by omega) (by omega) (by omega) (by omega) (by omega) ).symm, hs⟩
                · -- decide ((s.s0 : Int) = 4) False
                  have p55 := of_decide_eq_false b55
                  refine s_no rfl rfl rfl rfl (b' := decide ((s.s0 : Int) = 4)) rfl b55 ?_
                  refine s_no rfl rfl rfl rfl (b' := decide ((s.s0 : Int) = 4)) rfl b55 ?_
                  refine s_no rfl rfl rfl rfl (b' := decide ((s.s0 : Int) = 4)) rfl b55 ?_
                  refine s_y (v := .bool false) (y_pickF (b := decide ((s.s0 : Int) = 4)) (v := .bool false) rfl b55 rfl) rfl ?_
                  refine s_y (v := .bool false) (y_assign rfl) rfl ?_
                  refine wpL_nil ?_
                  refine thenS_n ?_
                  refine wpS_cond_f rfl ?_
                  refine wpS_seq ?_
                  refine wpS_region ?_
                  refine s_y (v := .pointer (some ⟨b_2, 0, none⟩)) (y_fieldAddr (o' := 0) rfl Try.underlying144 rfl Try.sizeOf3 (by decide) rfl) rfl ?_
                  refine s_y (v := .int .i64 (s.s0)) (y_load1 rfl Try.isAgg3 (own1 (.t .h) rfl)) rfl ?_
                  refine s_y (v := .bool (decide ((s.s0 : Int) = 5))) (y_eql (a := s.s0) (b := 5) rfl rfl rfl) rfl ?_
                  refine s_y (v := .bool (decide ((s.s0 : Int) = 5))) (y_move rfl) rfl ?_
                  rcases Bool.eq_false_or_eq_true (decide ((s.s0 : Int) = 5)) with b57 | b57
                  · -- decide ((s.s0 : Int) = 5) True
                    have p57 := of_decide_eq_true b57
                    refine s_gy (y_move rfl) rfl rfl rfl rfl (b' := decide ((s.s0 : Int) = 5)) rfl b57 ?_
                    refine s_y (v := .bool false) (y_pickT (b := decide ((s.s0 : Int) = 5)) (v := .bool false) rfl b57 rfl) rfl ?_
                    refine s_y (v := .bool false) (y_assign rfl) rfl ?_
                    refine wpL_nil ?_
                    refine thenS_n ?_
                    refine wpS_cond_f rfl ?_
                    refine wpS_skip ?_
                    refine blockS_n ?_
                    refine thenS_n ?_
                    refine wpS_seq ?_
                    refine wpS_region ?_
                    refine s_y (v := .int .i64 (-1)) (y_assign rfl) rfl ?_
                    refine wpL_nil ?_
                    refine thenS_n ?_
                    refine wpS_ret ?_
                    refine fin1 (M := []) (v := .int .i64 (-1)) (.inr rfl) (.nil) Try.results128 rfl ?_
                    exact fun w' hs => ⟨congrArg (fun z : Int => Ending.returned (.int .i64 z)) (mp_6 (by omega) (by omega) (by omega) (by omega) (by omega) (by omega) ).symm, hs⟩
                  · -- decide ((s.s0 : Int) = 5) False
                    have p57 := of_decide_eq_false b57
                    refine s_no rfl rfl rfl rfl (b' := decide ((s.s0 : Int) = 5)) rfl b57 ?_
                    refine s_y (v := .bool false) (y_pickF (b := decide ((s.s0 : Int) = 5)) (v := .bool false) rfl b57 rfl) rfl ?_
                    refine s_y (v := .bool false) (y_assign rfl) rfl ?_
                    refine wpL_nil ?_
                    refine thenS_n ?_
                    refine wpS_cond_f rfl ?_
                    refine wpS_skip ?_
                    refine blockS_n ?_
                    refine thenS_n ?_
                    refine wpS_seq ?_
                    refine wpS_region ?_
                    refine s_y (v := .int .i64 (-1)) (y_assign rfl) rfl ?_
                    refine wpL_nil ?_
                    refine thenS_n ?_
                    refine wpS_ret ?_
                    refine fin1 (M := []) (v := .int .i64 (-1)) (.inr rfl) (.nil) Try.results128 rfl ?_
                    exact fun w' hs => ⟨congrArg (fun z : Int => Ending.returned (.int .i64 z)) (mp_6 (by omega) (by omega) (by omega) (by omega) (by omega) (by omega) ).symm, hs⟩
        · -- decide ((s.s0 : Int) = 1) False
          have p44 := of_decide_eq_false b44
          refine s_no rfl rfl rfl rfl (b' := decide ((s.s0 : Int) = 1)) rfl b44 ?_
          refine s_no rfl rfl rfl rfl (b' := decide ((s.s0 : Int) = 1)) rfl b44 ?_
          refine s_no rfl rfl rfl rfl (b' := decide ((s.s0 : Int) = 1)) rfl b44 ?_
          refine s_y (v := .bool false) (y_pickF (b := decide ((s.s0 : Int) = 1)) (v := .bool false) rfl b44 rfl) rfl ?_
          refine s_y (v := .bool false) (y_move rfl) rfl ?_
          refine s_no rfl rfl rfl rfl rfl rfl ?_
          refine s_no rfl rfl rfl rfl rfl rfl ?_
          refine s_no rfl rfl rfl rfl rfl rfl ?_
          refine s_no rfl rfl rfl rfl rfl rfl ?_
          refine s_no rfl rfl rfl rfl rfl rfl ?_
          refine s_no rfl rfl rfl rfl rfl rfl ?_
          refine s_no rfl rfl rfl rfl rfl rfl ?_
          refine s_no rfl rfl rfl rfl rfl rfl ?_
          refine s_y (v := .bool false) (y_pickF (v := .bool false) rfl rfl rfl) rfl ?_
          refine s_y (v := .bool false) (y_assign rfl) rfl ?_
          refine wpL_nil ?_
          refine thenS_n ?_
          refine wpS_cond_f rfl ?_
          refine wpS_seq ?_
          refine wpS_region ?_
          refine s_y (v := .pointer (some ⟨b_2, 0, none⟩)) (y_fieldAddr (o' := 0) rfl Try.underlying144 rfl Try.sizeOf3 (by decide) rfl) rfl ?_
          refine s_y (v := .int .i64 (s.s0)) (y_load1 rfl Try.isAgg3 (own1 (.t .h) rfl)) rfl ?_
          refine s_y (v := .bool (decide ((s.s0 : Int) = 1))) (y_eql (a := s.s0) (b := 1) rfl rfl rfl) rfl ?_
          refine s_y (v := .bool (decide ((s.s0 : Int) = 1))) (y_move rfl) rfl ?_
          refine s_no rfl rfl rfl rfl (b' := decide ((s.s0 : Int) = 1)) rfl b44 ?_
          refine s_no rfl rfl rfl rfl (b' := decide ((s.s0 : Int) = 1)) rfl b44 ?_
          refine s_no rfl rfl rfl rfl (b' := decide ((s.s0 : Int) = 1)) rfl b44 ?_
          refine s_y (v := .bool false) (y_pickF (b := decide ((s.s0 : Int) = 1)) (v := .bool false) rfl b44 rfl) rfl ?_
          refine s_y (v := .bool false) (y_assign rfl) rfl ?_
          refine wpL_nil ?_
          refine thenS_n ?_
          refine wpS_cond_f rfl ?_
          refine wpS_seq ?_
          refine wpS_region ?_
          refine s_y (v := .pointer (some ⟨b_2, 0, none⟩)) (y_fieldAddr (o' := 0) rfl Try.underlying144 rfl Try.sizeOf3 (by decide) rfl) rfl ?_
          refine s_y (v := .int .i64 (s.s0)) (y_load1 rfl Try.isAgg3 (own1 (.t .h) rfl)) rfl ?_
          refine s_y (v := .bool (decide ((s.s0 : Int) = 2))) (y_eql (a := s.s0) (b := 2) rfl rfl rfl) rfl ?_
          refine s_y (v := .bool (decide ((s.s0 : Int) = 2))) (y_move rfl) rfl ?_
          rcases Bool.eq_false_or_eq_true (decide ((s.s0 : Int) = 2)) with b58 | b58
          · -- decide ((s.s0 : Int) = 2) True
            have p58 := of_decide_eq_true b58
            refine s_gy (y_move rfl) rfl rfl rfl rfl (b' := decide ((s.s0 : Int) = 2)) rfl b58 ?_
            refine s_y (v := .bool false) (y_pickT (b := decide ((s.s0 : Int) = 2)) (v := .bool false) rfl b58 rfl) rfl ?_
            refine s_y (v := .bool false) (y_assign rfl) rfl ?_
            refine wpL_nil ?_
            refine thenS_n ?_
            refine wpS_cond_f rfl ?_
            refine wpS_seq ?_
            refine wpS_region ?_
            refine s_y (v := .pointer (some ⟨b_2, 0, none⟩)) (y_fieldAddr (o' := 0) rfl Try.underlying144 rfl Try.sizeOf3 (by decide) rfl) rfl ?_
            refine s_y (v := .int .i64 (s.s0)) (y_load1 rfl Try.isAgg3 (own1 (.t .h) rfl)) rfl ?_
            refine s_y (v := .bool (decide ((s.s0 : Int) = 3))) (y_eql (a := s.s0) (b := 3) rfl rfl rfl) rfl ?_
            refine s_y (v := .bool (decide ((s.s0 : Int) = 3))) (y_move rfl) rfl ?_
            rcases Bool.eq_false_or_eq_true (decide ((s.s0 : Int) = 3)) with b59 | b59
            · -- decide ((s.s0 : Int) = 3) True
              have p59 := of_decide_eq_true b59
              refine s_no rfl rfl rfl rfl (b' := decide ((s.s0 : Int) = 3)) rfl b59 ?_
              refine s_no rfl rfl rfl rfl (b' := decide ((s.s0 : Int) = 3)) rfl b59 ?_
              refine s_no rfl rfl rfl rfl (b' := decide ((s.s0 : Int) = 3)) rfl b59 ?_
              refine s_y (v := .bool true) (y_pickT (b := decide ((s.s0 : Int) = 3)) (v := .bool true) rfl b59 rfl) rfl ?_
              refine s_y (v := .bool true) (y_move rfl) rfl ?_
              refine s_gy (y_fieldAddr (o' := 1) rfl Try.underlying144 rfl Try.sizeOf3 (by decide) rfl) rfl rfl rfl rfl rfl rfl ?_
              refine s_gy (y_load1 rfl Try.isAgg3 (own1 (.t .h) rfl)) rfl rfl rfl rfl rfl rfl ?_
              refine s_gy (y_eql (a := s.s1) (b := 0) rfl rfl rfl) rfl rfl rfl rfl rfl rfl ?_
              refine s_y (v := .bool (decide ((s.s1 : Int) = 0))) (y_pickT (v := .bool (decide ((s.s1 : Int) = 0))) rfl rfl rfl) rfl ?_
              refine s_y (v := .bool (decide ((s.s1 : Int) = 0))) (y_assign rfl) rfl ?_
              refine wpL_nil ?_
              refine thenS_n ?_
              refine wpS_cond (t := decide ((s.s1 : Int) = 0)) rfl (fun b60 => ?_) (fun b60 => ?_)
              · -- decide ((s.s1 : Int) = 0) true
                have p60 := of_decide_eq_true b60
                refine wpS_seq ?_
                refine wpS_region ?_
                refine s_y (v := .pointer (some ⟨b_3, 7, none⟩)) (y_fieldAddr (o' := 7) rfl Try.underlying184 rfl Try.sizeOf3 (by decide) rfl) rfl ?_
                refine s_y (v := .int .i64 ((ofP p).q7)) (y_load1 rfl Try.isAgg3 (own1 .h rfl)) rfl ?_
                refine s_y (v := .pointer (some ⟨b_2, 2, none⟩)) (y_fieldAddr (o' := 2) rfl Try.underlying144 rfl Try.sizeOf3 (by decide) rfl) rfl ?_
                refine s_y (v := .int .i64 (s.s2)) (y_load1 rfl Try.isAgg3 (own1 (.t .h) rfl)) rfl ?_
                refine s_y (v := .int .i64 (((ofP p).q7) + s.s2)) (y_add (a := (ofP p).q7) (b := s.s2) (c := ((ofP p).q7) + s.s2) rfl rfl (wI rfl (by omega) (by omega))) rfl ?_
                refine s_y (v := .int .i64 (((ofP p).q7) + s.s2)) (y_assign rfl) rfl ?_
                refine wpL_nil ?_
                refine thenS_n ?_
                refine wpS_ret ?_
                refine blockS_r ?_
                refine thenS_r ?_
                refine fin1 (M := []) (v := .int .i64 (((ofP p).q7) + s.s2)) (.inr rfl) (.nil) Try.results128 rfl ?_
                exact fun w' hs => ⟨congrArg (fun z : Int => Ending.returned (.int .i64 z)) (mp_4 (by omega) (by omega) (by omega) (by omega) (by omega) ).symm, hs⟩
              · -- decide ((s.s1 : Int) = 0) false
                have p60 := of_decide_eq_false b60
                refine wpS_seq ?_
                refine wpS_region ?_
                refine s_y (v := .pointer (some ⟨b_2, 0, none⟩)) (y_fieldAddr (o' := 0) rfl Try.underlying144 rfl Try.sizeOf3 (by decide) rfl) rfl ?_
                refine s_y (v := .int .i64 (s.s0)) (y_load1 rfl Try.isAgg3 (own1 (.t .h) rfl)) rfl ?_
                refine s_y (v := .bool (decide ((s.s0 : Int) = 5))) (y_eql (a := s.s0) (b := 5) rfl rfl rfl) rfl ?_
                refine s_y (v := .bool (decide ((s.s0 : Int) = 5))) (y_move rfl) rfl ?_
                rcases Bool.eq_false_or_eq_true (decide ((s.s0 : Int) = 5)) with b61 | b61
                · -- decide ((s.s0 : Int) = 5) True
                  have p61 := of_decide_eq_true b61
                  refine s_gy (y_move rfl) rfl rfl rfl rfl (b' := decide ((s.s0 : Int) = 5)) rfl b61 ?_
                  refine s_y (v := .bool false) (y_pickT (b := decide ((s.s0 : Int) = 5)) (v := .bool false) rfl b61 rfl) rfl ?_
                  refine s_y (v := .bool false) (y_assign rfl) rfl ?_
                  refine wpL_nil ?_
                  refine thenS_n ?_
                  refine wpS_cond_f rfl ?_
                  refine wpS_skip ?_
                  refine blockS_n ?_
                  refine thenS_n ?_
                  refine wpS_seq ?_
                  refine wpS_region ?_
                  refine s_y (v := .int .i64 (-1)) (y_assign rfl) rfl ?_
                  refine wpL_nil ?_
                  refine thenS_n ?_
                  refine wpS_ret ?_
                  refine fin1 (M := []) (v := .int .i64 (-1)) (.inr rfl) (.nil) Try.results128 rfl ?_
                  exact fun w' hs => ⟨congrArg (fun z : Int => Ending.returned (.int .i64 z)) (mp_6 (by omega) (by omega) (by omega) (by omega) (by omega) (by omega) ).symm, hs⟩
                · -- decide ((s.s0 : Int) = 5) False
                  have p61 := of_decide_eq_false b61
                  refine s_no rfl rfl rfl rfl (b' := decide ((s.s0 : Int) = 5)) rfl b61 ?_
                  refine s_y (v := .bool false) (y_pickF (b := decide ((s.s0 : Int) = 5)) (v := .bool false) rfl b61 rfl) rfl ?_
                  refine s_y (v := .bool false) (y_assign rfl) rfl ?_
                  refine wpL_nil ?_
                  refine thenS_n ?_
                  refine wpS_cond_f rfl ?_
                  refine wpS_skip ?_
                  refine blockS_n ?_
                  refine thenS_n ?_
                  refine wpS_seq ?_
                  refine wpS_region ?_
                  refine s_y (v := .int .i64 (-1)) (y_assign rfl) rfl ?_
                  refine wpL_nil ?_
                  refine thenS_n ?_
                  refine wpS_ret ?_
                  refine fin1 (M := []) (v := .int .i64 (-1)) (.inr rfl) (.nil) Try.results128 rfl ?_
                  exact fun w' hs => ⟨congrArg (fun z : Int => Ending.returned (.int .i64 z)) (mp_6 (by omega) (by omega) (by omega) (by omega) (by omega) (by omega) ).symm, hs⟩
            · -- decide ((s.s0 : Int) = 3) False
              have p59 := of_decide_eq_false b59
              refine s_gy (y_fieldAddr (o' := 0) rfl Try.underlying144 rfl Try.sizeOf3 (by decide) rfl) rfl rfl rfl rfl (b' := decide ((s.s0 : Int) = 3)) rfl b59 ?_
              refine s_gy (y_load1 rfl Try.isAgg3 (own1 (.t .h) rfl)) rfl rfl rfl rfl (b' := decide ((s.s0 : Int) = 3)) rfl b59 ?_
              refine s_gy (y_eql (a := s.s0) (b := 4) rfl rfl rfl) rfl rfl rfl rfl (b' := decide ((s.s0 : Int) = 3)) rfl b59 ?_
              refine s_y (v := .bool (decide ((s.s0 : Int) = 4))) (y_pickF (b := decide ((s.s0 : Int) = 3)) (v := .bool (decide ((s.s0 : Int) = 4))) rfl b59 rfl) rfl ?_
              refine s_y (v := .bool (decide ((s.s0 : Int) = 4))) (y_move rfl) rfl ?_
              rcases Bool.eq_false_or_eq_true (decide ((s.s0 : Int) = 4)) with b62 | b62
              · -- decide ((s.s0 : Int) = 4) True
                have p62 := of_decide_eq_true b62
                refine s_gy (y_fieldAddr (o' := 1) rfl Try.underlying144 rfl Try.sizeOf3 (by decide) rfl) rfl rfl rfl rfl (b' := decide ((s.s0 : Int) = 4)) rfl b62 ?_
                refine s_gy (y_load1 rfl Try.isAgg3 (own1 (.t .h) rfl)) rfl rfl rfl rfl (b' := decide ((s.s0 : Int) = 4)) rfl b62 ?_
                refine s_gy (y_eql (a := s.s1) (b := 0) rfl rfl rfl) rfl rfl rfl rfl (b' := decide ((s.s0 : Int) = 4)) rfl b62 ?_
                refine s_y (v := .bool (decide ((s.s1 : Int) = 0))) (y_pickT (b := decide ((s.s0 : Int) = 4)) (v := .bool (decide ((s.s1 : Int) = 0))) rfl b62 rfl) rfl ?_
                refine s_y (v := .bool (decide ((s.s1 : Int) = 0))) (y_assign rfl) rfl ?_
                refine wpL_nil ?_
                refine thenS_n ?_
                refine wpS_cond (t := decide ((s.s1 : Int) = 0)) rfl (fun b63 => ?_) (fun b63 => ?_)
                · -- decide ((s.s1 : Int) = 0) true
                  have p63 := of_decide_eq_true b63
                  refine wpS_seq ?_
                  refine wpS_region ?_
                  refine s_y (v := .pointer (some ⟨b_3, 7, none⟩)) (y_fieldAddr (o' := 7) rfl Try.underlying184 rfl Try.sizeOf3 (by decide) rfl) rfl ?_
                  refine s_y (v := .int .i64 ((ofP p).q7)) (y_load1 rfl Try.isAgg3 (own1 .h rfl)) rfl ?_
                  refine s_y (v := .pointer (some ⟨b_2, 2, none⟩)) (y_fieldAddr (o' := 2) rfl Try.underlying144 rfl Try.sizeOf3 (by decide) rfl) rfl ?_
                  refine s_y (v := .int .i64 (s.s2)) (y_load1 rfl Try.isAgg3 (own1 (.t .h) rfl)) rfl ?_
                  refine s_y (v := .int .i64 (((ofP p).q7) + s.s2)) (y_add (a := (ofP p).q7) (b := s.s2) (c := ((ofP p).q7) + s.s2) rfl rfl (wI rfl (by omega) (by omega))) rfl ?_
                  refine s_y (v := .int .i64 (((ofP p).q7) + s.s2)) (y_assign rfl) rfl ?_
                  refine wpL_nil ?_
                  refine thenS_n ?_
                  refine wpS_ret ?_
                  refine blockS_r ?_
                  refine thenS_r ?_
                  refine fin1 (M := []) (v := .int .i64 (((ofP p).q7) + s.s2)) (.inr rfl) (.nil) Try.results128 rfl ?_
                  exact fun w' hs => ⟨congrArg (fun z : Int => Ending.returned (.int .i64 z)) (mp_4 (by omega) (by omega) (by omega) (by omega) (by omega) ).symm, hs⟩
                · -- decide ((s.s1 : Int) = 0) false
                  have p63 := of_decide_eq_false b63
                  refine wpS_seq ?_
                  refine wpS_region ?_
                  refine s_y (v := .pointer (some ⟨b_2, 0, none⟩)) (y_fieldAddr (o' := 0) rfl Try.underlying144 rfl Try.sizeOf3 (by decide) rfl) rfl ?_
                  refine s_y (v := .int .i64 (s.s0)) (y_load1 rfl Try.isAgg3 (own1 (.t .h) rfl)) rfl ?_
                  refine s_y (v := .bool (decide ((s.s0 : Int) = 5))) (y_eql (a := s.s0) (b := 5) rfl rfl rfl) rfl ?_
                  refine s_y (v := .bool (decide ((s.s0 : Int) = 5))) (y_move rfl) rfl ?_
                  rcases Bool.eq_false_or_eq_true (decide ((s.s0 : Int) = 5)) with b64 | b64
                  · -- decide ((s.s0 : Int) = 5) True
                    have p64 := of_decide_eq_true b64
                    refine s_gy (y_move rfl) rfl rfl rfl rfl (b' := decide ((s.s0 : Int) = 5)) rfl b64 ?_
                    refine s_y (v := .bool false) (y_pickT (b := decide ((s.s0 : Int) = 5)) (v := .bool false) rfl b64 rfl) rfl ?_
                    refine s_y (v := .bool false) (y_assign rfl) rfl ?_
                    refine wpL_nil ?_
                    refine thenS_n ?_
                    refine wpS_cond_f rfl ?_
                    refine wpS_skip ?_
                    refine blockS_n ?_
                    refine thenS_n ?_
                    refine wpS_seq ?_
                    refine wpS_region ?_
                    refine s_y (v := .int .i64 (-1)) (y_assign rfl) rfl ?_
                    refine wpL_nil ?_
                    refine thenS_n ?_
                    refine wpS_ret ?_
                    refine fin1 (M := []) (v := .int .i64 (-1)) (.inr rfl) (.nil) Try.results128 rfl ?_
                    exact fun w' hs => ⟨congrArg (fun z : Int => Ending.returned (.int .i64 z)) (mp_6 (by omega) (by omega) (by omega) (by omega) (by omega) (by omega) ).symm, hs⟩
                  · -- decide ((s.s0 : Int) = 5) False
                    have p64 := of_decide_eq_false b64
                    refine s_no rfl rfl rfl rfl (b' := decide ((s.s0 : Int) = 5)) rfl b64 ?_
                    refine s_y (v := .bool false) (y_pickF (b := decide ((s.s0 : Int) = 5)) (v := .bool false) rfl b64 rfl) rfl ?_
                    refine s_y (v := .bool false) (y_assign rfl) rfl ?_
                    refine wpL_nil ?_
                    refine thenS_n ?_
                    refine wpS_cond_f rfl ?_
                    refine wpS_skip ?_
                    refine blockS_n ?_
                    refine thenS_n ?_
                    refine wpS_seq ?_
                    refine wpS_region ?_
                    refine s_y (v := .int .i64 (-1)) (y_assign rfl) rfl ?_
                    refine wpL_nil ?_
                    refine thenS_n ?_
                    refine wpS_ret ?_
                    refine fin1 (M := []) (v := .int .i64 (-1)) (.inr rfl) (.nil) Try.results128 rfl ?_
                    exact fun w' hs => ⟨congrArg (fun z : Int => Ending.returned (.int .i64 z)) (mp_6 (by omega) (by omega) (by omega) (by omega) (by omega) (by omega) ).symm, hs⟩
              · -- decide ((s.s0 : Int) = 4) False
                have p62 := of_decide_eq_false b62
                refine s_no rfl rfl rfl rfl (b' := decide ((s.s0 : Int) = 4)) rfl b62 ?_
                refine s_no rfl rfl rfl rfl (b' := decide ((s.s0 : Int) = 4)) rfl b62 ?_
                refine s_no rfl rfl rfl rfl (b' := decide ((s.s0 : Int) = 4)) rfl b62 ?_
                refine s_y (v := .bool false) (y_pickF (b := decide ((s.s0 : Int) = 4)) (v := .bool false) rfl b62 rfl) rfl ?_
                refine s_y (v := .bool false) (y_assign rfl) rfl ?_
                refine wpL_nil ?_
                refine thenS_n ?_
                refine wpS_cond_f rfl ?_
                refine wpS_seq ?_
                refine wpS_region ?_
                refine s_y (v := .pointer (some ⟨b_2, 0, none⟩)) (y_fieldAddr (o' := 0) rfl Try.underlying144 rfl Try.sizeOf3 (by decide) rfl) rfl ?_
                refine s_y (v := .int .i64 (s.s0)) (y_load1 rfl Try.isAgg3 (own1 (.t .h) rfl)) rfl ?_
                refine s_y (v := .bool (decide ((s.s0 : Int) = 5))) (y_eql (a := s.s0) (b := 5) rfl rfl rfl) rfl ?_
                refine s_y (v := .bool (decide ((s.s0 : Int) = 5))) (y_move rfl) rfl ?_
                rcases Bool.eq_false_or_eq_true (decide ((s.s0 : Int) = 5)) with b65 | b65
                · -- decide ((s.s0 : Int) = 5) True
                  have p65 := of_decide_eq_true b65
                  refine s_gy (y_move rfl) rfl rfl rfl rfl (b' := decide ((s.s0 : Int) = 5)) rfl b65 ?_
                  refine s_y (v := .bool false) (y_pickT (b := decide ((s.s0 : Int) = 5)) (v := .bool false) rfl b65 rfl) rfl ?_
                  refine s_y (v := .bool false) (y_assign rfl) rfl ?_
                  refine wpL_nil ?_
                  refine thenS_n ?_
                  refine wpS_cond_f rfl ?_
                  refine wpS_skip ?_
                  refine blockS_n ?_
                  refine thenS_n ?_
                  refine wpS_seq ?_
                  refine wpS_region ?_
                  refine s_y (v := .int .i64 (-1)) (y_assign rfl) rfl ?_
                  refine wpL_nil ?_
                  refine thenS_n ?_
                  refine wpS_ret ?_
                  refine fin1 (M := []) (v := .int .i64 (-1)) (.inr rfl) (.nil) Try.results128 rfl ?_
                  exact fun w' hs => ⟨congrArg (fun z : Int => Ending.returned (.int .i64 z)) (mp_6 (by omega) (by omega) (by omega) (by omega) (by omega) (by omega) ).symm, hs⟩
                · -- decide ((s.s0 : Int) = 5) False
                  have p65 := of_decide_eq_false b65
                  refine s_no rfl rfl rfl rfl (b' := decide ((s.s0 : Int) = 5)) rfl b65 ?_
                  refine s_y (v := .bool false) (y_pickF (b := decide ((s.s0 : Int) = 5)) (v := .bool false) rfl b65 rfl) rfl ?_
                  refine s_y (v := .bool false) (y_assign rfl) rfl ?_
                  refine wpL_nil ?_
                  refine thenS_n ?_
                  refine wpS_cond_f rfl ?_
                  refine wpS_skip ?_
                  refine blockS_n ?_
                  refine thenS_n ?_
                  refine wpS_seq ?_
                  refine wpS_region ?_
                  refine s_y (v := .int .i64 (-1)) (y_assign rfl) rfl ?_
                  refine wpL_nil ?_
                  refine thenS_n ?_
                  refine wpS_ret ?_
                  refine fin1 (M := []) (v := .int .i64 (-1)) (.inr rfl) (.nil) Try.results128 rfl ?_
                  exact fun w' hs => ⟨congrArg (fun z : Int => Ending.returned (.int .i64 z)) (mp_6 (by omega) (by omega) (by omega) (by omega) (by omega) (by omega) ).symm, hs⟩
          · -- decide ((s.s0 : Int) = 2) False
            have p58 := of_decide_eq_false b58
            refine s_no rfl rfl rfl rfl (b' := decide ((s.s0 : Int) = 2)) rfl b58 ?_
            refine s_y (v := .bool false) (y_pickF (b := decide ((s.s0 : Int) = 2)) (v := .bool false) rfl b58 rfl) rfl ?_
            refine s_y (v := .bool false) (y_assign rfl) rfl ?_
            refine wpL_nil ?_
            refine thenS_n ?_
            refine wpS_cond_f rfl ?_
            refine wpS_seq ?_
            refine wpS_region ?_
            refine s_y (v := .pointer (some ⟨b_2, 0, none⟩)) (y_fieldAddr (o' := 0) rfl Try.underlying144 rfl Try.sizeOf3 (by decide) rfl) rfl ?_
            refine s_y (v := .int .i64 (s.s0)) (y_load1 rfl Try.isAgg3 (own1 (.t .h) rfl)) rfl ?_
            refine s_y (v := .bool (decide ((s.s0 : Int) = 3))) (y_eql (a := s.s0) (b := 3) rfl rfl rfl) rfl ?_
            refine s_y (v := .bool (decide ((s.s0 : Int) = 3))) (y_move rfl) rfl ?_
            rcases Bool.eq_false_or_eq_true (decide ((s.s0 : Int) = 3)) with b66 | b66
            · -- decide ((s.s0 : Int) = 3) True
              have p66 := of_decide_eq_true b66
              refine s_no rfl rfl rfl rfl (b' := decide ((s.s0 : Int) = 3)) rfl b66 ?_
              refine s_no rfl rfl rfl rfl (b' := decide ((s.s0 : Int) = 3)) rfl b66 ?_
              refine s_no rfl rfl rfl rfl (b' := decide ((s.s0 : Int) = 3)) rfl b66 ?_
              refine s_y (v := .bool true) (y_pickT (b := decide ((s.s0 : Int) = 3)) (v := .bool true) rfl b66 rfl) rfl ?_
              refine s_y (v := .bool true) (y_move rfl) rfl ?_
              refine s_gy (y_fieldAddr (o' := 1) rfl Try.underlying144 rfl Try.sizeOf3 (by decide) rfl) rfl rfl rfl rfl rfl rfl ?_
              refine s_gy (y_load1 rfl Try.isAgg3 (own1 (.t .h) rfl)) rfl rfl rfl rfl rfl rfl ?_
              refine s_gy (y_eql (a := s.s1) (b := 0) rfl rfl rfl) rfl rfl rfl rfl rfl rfl ?_
              refine s_y (v := .bool (decide ((s.s1 : Int) = 0))) (y_pickT (v := .bool (decide ((s.s1 : Int) = 0))) rfl rfl rfl) rfl ?_
              refine s_y (v := .bool (decide ((s.s1 : Int) = 0))) (y_assign rfl) rfl ?_
              refine wpL_nil ?_
              refine thenS_n ?_
              refine wpS_cond (t := decide ((s.s1 : Int) = 0)) rfl (fun b67 => ?_) (fun b67 => ?_)
              · -- decide ((s.s1 : Int) = 0) true
                have p67 := of_decide_eq_true b67
                refine wpS_seq ?_
                refine wpS_region ?_
                refine s_y (v := .pointer (some ⟨b_3, 7, none⟩)) (y_fieldAddr (o' := 7) rfl Try.underlying184 rfl Try.sizeOf3 (by decide) rfl) rfl ?_
                refine s_y (v := .int .i64 ((ofP p).q7)) (y_load1 rfl Try.isAgg3 (own1 .h rfl)) rfl ?_
                refine s_y (v := .pointer (some ⟨b_2, 2, none⟩)) (y_fieldAddr (o' := 2) rfl Try.underlying144 rfl Try.sizeOf3 (by decide) rfl) rfl ?_
                refine s_y (v := .int .i64 (s.s2)) (y_load1 rfl Try.isAgg3 (own1 (.t .h) rfl)) rfl ?_
                refine s_y (v := .int .i64 (((ofP p).q7) + s.s2)) (y_add (a := (ofP p).q7) (b := s.s2) (c := ((ofP p).q7) + s.s2) rfl rfl (wI rfl (by omega) (by omega))) rfl ?_
                refine s_y (v := .int .i64 (((ofP p).q7) + s.s2)) (y_assign rfl) rfl ?_
                refine wpL_nil ?_
                refine thenS_n ?_
                refine wpS_ret ?_
                refine blockS_r ?_
                refine thenS_r ?_
                refine fin1 (M := []) (v := .int .i64 (((ofP p).q7) + s.s2)) (.inr rfl) (.nil) Try.results128 rfl ?_
                exact fun w' hs => ⟨congrArg (fun z : Int => Ending.returned (.int .i64 z)) (mp_4 (by omega) (by omega) (by omega) (by omega) (by omega) ).symm, hs⟩
              · -- decide ((s.s1 : Int) = 0) false
                have p67 := of_decide_eq_false b67
                refine wpS_seq ?_
                refine wpS_region ?_
                refine s_y (v := .pointer (some ⟨b_2, 0, none⟩)) (y_fieldAddr (o' := 0) rfl Try.underlying144 rfl Try.sizeOf3 (by decide) rfl) rfl ?_
                refine s_y (v := .int .i64 (s.s0)) (y_load1 rfl Try.isAgg3 (own1 (.t .h) rfl)) rfl ?_
                refine s_y (v := .bool (decide ((s.s0 : Int) = 5))) (y_eql (a := s.s0) (b := 5) rfl rfl rfl) rfl ?_
                refine s_y (v := .bool (decide ((s.s0 : Int) = 5))) (y_move rfl) rfl ?_
                rcases Bool.eq_false_or_eq_true (decide ((s.s0 : Int) = 5)) with b68 | b68
                · -- decide ((s.s0 : Int) = 5) True
                  have p68 := of_decide_eq_true b68
                  refine s_gy (y_move rfl) rfl rfl rfl rfl (b' := decide ((s.s0 : Int) = 5)) rfl b68 ?_
                  refine s_y (v := .bool false) (y_pickT (b := decide ((s.s0 : Int) = 5)) (v := .bool false) rfl b68 rfl) rfl ?_
                  refine s_y (v := .bool false) (y_assign rfl) rfl ?_
                  refine wpL_nil ?_
                  refine thenS_n ?_
                  refine wpS_cond_f rfl ?_
                  refine wpS_skip ?_
                  refine blockS_n ?_
                  refine thenS_n ?_
                  refine wpS_seq ?_
                  refine wpS_region ?_
                  refine s_y (v := .int .i64 (-1)) (y_assign rfl) rfl ?_
                  refine wpL_nil ?_
                  refine thenS_n ?_
                  refine wpS_ret ?_
                  refine fin1 (M := []) (v := .int .i64 (-1)) (.inr rfl) (.nil) Try.results128 rfl ?_
                  exact fun w' hs => ⟨congrArg (fun z : Int => Ending.returned (.int .i64 z)) (mp_6 (by omega) (by omega) (by omega) (by omega) (by omega) (by omega) ).symm, hs⟩
                · -- decide ((s.s0 : Int) = 5) False
                  have p68 := of_decide_eq_false b68
                  refine s_no rfl rfl rfl rfl (b' := decide ((s.s0 : Int) = 5)) rfl b68 ?_
                  refine s_y (v := .bool false) (y_pickF (b := decide ((s.s0 : Int) = 5)) (v := .bool false) rfl b68 rfl) rfl ?_
                  refine s_y (v := .bool false) (y_assign rfl) rfl ?_
                  refine wpL_nil ?_
                  refine thenS_n ?_
                  refine wpS_cond_f rfl ?_
                  refine wpS_skip ?_
                  refine blockS_n ?_
                  refine thenS_n ?_
                  refine wpS_seq ?_
                  refine wpS_region ?_
                  refine s_y (v := .int .i64 (-1)) (y_assign rfl) rfl ?_
                  refine wpL_nil ?_
                  refine thenS_n ?_
                  refine wpS_ret ?_
                  refine fin1 (M := []) (v := .int .i64 (-1)) (.inr rfl) (.nil) Try.results128 rfl ?_
                  exact fun w' hs => ⟨congrArg (fun z : Int => Ending.returned (.int .i64 z)) (mp_6 (by omega) (by omega) (by omega) (by omega) (by omega) (by omega) ).symm, hs⟩
            · -- decide ((s.s0 : Int) = 3) False
              have p66 := of_decide_eq_false b66
              refine s_gy (y_fieldAddr (o' := 0) rfl Try.underlying144 rfl Try.sizeOf3 (by decide) rfl) rfl rfl rfl rfl (b' := decide ((s.s0 : Int) = 3)) rfl b66 ?_
              refine s_gy (y_load1 rfl Try.isAgg3 (own1 (.t .h) rfl)) rfl rfl rfl rfl (b' := decide ((s.s0 : Int) = 3)) rfl b66 ?_
              refine s_gy (y_eql (a := s.s0) (b := 4) rfl rfl rfl) rfl rfl rfl rfl (b' := decide ((s.s0 : Int) = 3)) rfl b66 ?_
              refine s_y (v := .bool (decide ((s.s0 : Int) = 4))) (y_pickF (b := decide ((s.s0 : Int) = 3)) (v := .bool (decide ((s.s0 : Int) = 4))) rfl b66 rfl) rfl ?_
              refine s_y (v := .bool (decide ((s.s0 : Int) = 4))) (y_move rfl) rfl ?_
              rcases Bool.eq_false_or_eq_true (decide ((s.s0 : Int) = 4)) with b69 | b69
              · -- decide ((s.s0 : Int) = 4) True
                have p69 := of_decide_eq_true b69
                refine s_gy (y_fieldAddr (o' := 1) rfl Try.underlying144 rfl Try.sizeOf3 (by decide) rfl) rfl rfl rfl rfl (b' := decide ((s.s0 : Int) = 4)) rfl b69 ?_
                refine s_gy (y_load1 rfl Try.isAgg3 (own1 (.t .h) rfl)) rfl rfl rfl rfl (b' := decide ((s.s0 : Int) = 4)) rfl b69 ?_
                refine s_gy (y_eql (a := s.s1) (b := 0) rfl rfl rfl) rfl rfl rfl rfl (b' := decide ((s.s0 : Int) = 4)) rfl b69 ?_
                refine s_y (v := .bool (decide ((s.s1 : Int) = 0))) (y_pickT (b := decide ((s.s0 : Int) = 4)) (v := .bool (decide ((s.s1 : Int) = 0))) rfl b69 rfl) rfl ?_
                refine s_y (v := .bool (decide ((s.s1 : Int) = 0))) (y_assign rfl) rfl ?_
                refine wpL_nil ?_
                refine thenS_n ?_
                refine wpS_cond (t := decide ((s.s1 : Int) = 0)) rfl (fun b70 => ?_) (fun b70 => ?_)
                · -- decide ((s.s1 : Int) = 0) true
                  have p70 := of_decide_eq_true b70
                  refine wpS_seq ?_
                  refine wpS_region ?_
                  refine s_y (v := .pointer (some ⟨b_3, 7, none⟩)) (y_fieldAddr (o' := 7) rfl Try.underlying184 rfl Try.sizeOf3 (by decide) rfl) rfl ?_
                  refine s_y (v := .int .i64 ((ofP p).q7)) (y_load1 rfl Try.isAgg3 (own1 .h rfl)) rfl ?_
                  refine s_y (v := .pointer (some ⟨b_2, 2, none⟩)) (y_fieldAddr (o' := 2) rfl Try.underlying144 rfl Try.sizeOf3 (by decide) rfl) rfl ?_
                  refine s_y (v := .int .i64 (s.s2)) (y_load1 rfl Try.isAgg3 (own1 (.t .h) rfl)) rfl ?_
                  refine s_y (v := .int .i64 (((ofP p).q7) + s.s2)) (y_add (a := (ofP p).q7) (b := s.s2) (c := ((ofP p).q7) + s.s2) rfl rfl (wI rfl (by omega) (by omega))) rfl ?_
                  refine s_y (v := .int .i64 (((ofP p).q7) + s.s2)) (y_assign rfl) rfl ?_
                  refine wpL_nil ?_
                  refine thenS_n ?_
                  refine wpS_ret ?_
                  refine blockS_r ?_
                  refine thenS_r ?_
                  refine fin1 (M := []) (v := .int .i64 (((ofP p).q7) + s.s2)) (.inr rfl) (.nil) Try.results128 rfl ?_
                  exact fun w' hs => ⟨congrArg (fun z : Int => Ending.returned (.int .i64 z)) (mp_4 (by omega) (by omega) (by omega) (by omega) (by omega) ).symm, hs⟩
                · -- decide ((s.s1 : Int) = 0) false
                  have p70 := of_decide_eq_false b70
                  refine wpS_seq ?_
                  refine wpS_region ?_
                  refine s_y (v := .pointer (some ⟨b_2, 0, none⟩)) (y_fieldAddr (o' := 0) rfl Try.underlying144 rfl Try.sizeOf3 (by decide) rfl) rfl ?_
                  refine s_y (v := .int .i64 (s.s0)) (y_load1 rfl Try.isAgg3 (own1 (.t .h) rfl)) rfl ?_
                  refine s_y (v := .bool (decide ((s.s0 : Int) = 5))) (y_eql (a := s.s0) (b := 5) rfl rfl rfl) rfl ?_
                  refine s_y (v := .bool (decide ((s.s0 : Int) = 5))) (y_move rfl) rfl ?_
                  rcases Bool.eq_false_or_eq_true (decide ((s.s0 : Int) = 5)) with b71 | b71
                  · -- decide ((s.s0 : Int) = 5) True
                    have p71 := of_decide_eq_true b71
                    refine s_gy (y_move rfl) rfl rfl rfl rfl (b' := decide ((s.s0 : Int) = 5)) rfl b71 ?_
                    refine s_y (v := .bool false) (y_pickT (b := decide ((s.s0 : Int) = 5)) (v := .bool false) rfl b71 rfl) rfl ?_
                    refine s_y (v := .bool false) (y_assign rfl) rfl ?_
                    refine wpL_nil ?_
                    refine thenS_n ?_
                    refine wpS_cond_f rfl ?_
                    refine wpS_skip ?_
                    refine blockS_n ?_
                    refine thenS_n ?_
                    refine wpS_seq ?_
                    refine wpS_region ?_
                    refine s_y (v := .int .i64 (-1)) (y_assign rfl) rfl ?_
                    refine wpL_nil ?_
                    refine thenS_n ?_
                    refine wpS_ret ?_
                    refine fin1 (M := []) (v := .int .i64 (-1)) (.inr rfl) (.nil) Try.results128 rfl ?_
                    exact fun w' hs => ⟨congrArg (fun z : Int => Ending.returned (.int .i64 z)) (mp_6 (by omega) (by omega) (by omega) (by omega) (by omega) (by omega) ).symm, hs⟩
                  · -- decide ((s.s0 : Int) = 5) False
                    have p71 := of_decide_eq_false b71
                    refine s_no rfl rfl rfl rfl (b' := decide ((s.s0 : Int) = 5)) rfl b71 ?_
                    refine s_y (v := .bool false) (y_pickF (b := decide ((s.s0 : Int) = 5)) (v := .bool false) rfl b71 rfl) rfl ?_
                    refine s_y (v := .bool false) (y_assign rfl) rfl ?_
                    refine wpL_nil ?_
                    refine thenS_n ?_
                    refine wpS_cond_f rfl ?_
                    refine wpS_skip ?_
                    refine blockS_n ?_
                    refine thenS_n ?_
                    refine wpS_seq ?_
                    refine wpS_region ?_
                    refine s_y (v := .int .i64 (-1)) (y_assign rfl) rfl ?_
                    refine wpL_nil ?_
                    refine thenS_n ?_
                    refine wpS_ret ?_
                    refine fin1 (M := []) (v := .int .i64 (-1)) (.inr rfl) (.nil) Try.results128 rfl ?_
                    exact fun w' hs => ⟨congrArg (fun z : Int => Ending.returned (.int .i64 z)) (mp_6 (by omega) (by omega) (by omega) (by omega) (by omega) (by omega) ).symm, hs⟩
              · -- decide ((s.s0 : Int) = 4) False
                have p69 := of_decide_eq_false b69
                refine s_no rfl rfl rfl rfl (b' := decide ((s.s0 : Int) = 4)) rfl b69 ?_
                refine s_no rfl rfl rfl rfl (b' := decide ((s.s0 : Int) = 4)) rfl b69 ?_
                refine s_no rfl rfl rfl rfl (b' := decide ((s.s0 : Int) = 4)) rfl b69 ?_
                refine s_y (v := .bool false) (y_pickF (b := decide ((s.s0 : Int) = 4)) (v := .bool false) rfl b69 rfl) rfl ?_
                refine s_y (v := .bool false) (y_assign rfl) rfl ?_
                refine wpL_nil ?_
                refine thenS_n ?_
                refine wpS_cond_f rfl ?_
                refine wpS_seq ?_
                refine wpS_region ?_
                refine s_y (v := .pointer (some ⟨b_2, 0, none⟩)) (y_fieldAddr (o' := 0) rfl Try.underlying144 rfl Try.sizeOf3 (by decide) rfl) rfl ?_
                refine s_y (v := .int .i64 (s.s0)) (y_load1 rfl Try.isAgg3 (own1 (.t .h) rfl)) rfl ?_
                refine s_y (v := .bool (decide ((s.s0 : Int) = 5))) (y_eql (a := s.s0) (b := 5) rfl rfl rfl) rfl ?_
                refine s_y (v := .bool (decide ((s.s0 : Int) = 5))) (y_move rfl) rfl ?_
                rcases Bool.eq_false_or_eq_true (decide ((s.s0 : Int) = 5)) with b72 | b72
                · -- decide ((s.s0 : Int) = 5) True
                  have p72 := of_decide_eq_true b72
                  refine s_gy (y_move rfl) rfl rfl rfl rfl (b' := decide ((s.s0 : Int) = 5)) rfl b72 ?_
                  refine s_y (v := .bool false) (y_pickT (b := decide ((s.s0 : Int) = 5)) (v := .bool false) rfl b72 rfl) rfl ?_
                  refine s_y (v := .bool false) (y_assign rfl) rfl ?_
                  refine wpL_nil ?_
                  refine thenS_n ?_
                  refine wpS_cond_f rfl ?_
                  refine wpS_skip ?_
                  refine blockS_n ?_
                  refine thenS_n ?_
                  refine wpS_seq ?_
                  refine wpS_region ?_
                  refine s_y (v := .int .i64 (-1)) (y_assign rfl) rfl ?_
                  refine wpL_nil ?_
                  refine thenS_n ?_
                  refine wpS_ret ?_
                  refine fin1 (M := []) (v := .int .i64 (-1)) (.inr rfl) (.nil) Try.results128 rfl ?_
                  exact fun w' hs => ⟨congrArg (fun z : Int => Ending.returned (.int .i64 z)) (mp_6 (by omega) (by omega) (by omega) (by omega) (by omega) (by omega) ).symm, hs⟩
                · -- decide ((s.s0 : Int) = 5) False
                  have p72 := of_decide_eq_false b72
                  refine s_no rfl rfl rfl rfl (b' := decide ((s.s0 : Int) = 5)) rfl b72 ?_
                  refine s_y (v := .bool false) (y_pickF (b := decide ((s.s0 : Int) = 5)) (v := .bool false) rfl b72 rfl) rfl ?_
                  refine s_y (v := .bool false) (y_assign rfl) rfl ?_
                  refine wpL_nil ?_
                  refine thenS_n ?_
                  refine wpS_cond_f rfl ?_
                  refine wpS_skip ?_
                  refine blockS_n ?_
                  refine thenS_n ?_
                  refine wpS_seq ?_
                  refine wpS_region ?_
                  refine s_y (v := .int .i64 (-1)) (y_assign rfl) rfl ?_
                  refine wpL_nil ?_
                  refine thenS_n ?_
                  refine wpS_ret ?_
                  refine fin1 (M := []) (v := .int .i64 (-1)) (.inr rfl) (.nil) Try.results128 rfl ?_
                  exact fun w' hs => ⟨congrArg (fun z : Int => Ending.returned (.int .i64 z)) (mp_6 (by omega) (by omega) (by omega) (by omega) (by omega) (by omega) ).symm, hs⟩

end Go.Proofs.Ytldkjjnjdjfipaa
