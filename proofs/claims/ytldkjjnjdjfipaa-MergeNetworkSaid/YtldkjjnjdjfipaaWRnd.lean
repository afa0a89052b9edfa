/- The rounds of the bitonic network, told one by one, walked. -/
import Derived.Test.YtldkjjnjdjfipaaRf
import Derived.Test.YtldkjjnjdjfipaaWPad
import Derived.Test.YtldkjjnjdjfipaaP13
namespace Go.Proofs.Ytldkjjnjdjfipaa
open Go Go.RowKit
set_option linter.unusedVariables false
set_option linter.unusedSimpArgs false
set_option maxRecDepth 10000

theorem far_c (n r : Int) (n1 : -9223372036854775808 ≤ n) (n2 : n < 9223372036854775808) (r1 : -9223372036854775808 ≤ r) (r2 : r < 9223372036854775808) (w : World) : Pure Try.prog 153 #[.int .i64 n, .int .i64 r] w (.int .i64 ((((far n r) : Nat) : Int))) := by
  refine calls_S (n := 20) (σ0 := (upd (upd fr0 0 (.int .i64 n)) 1 (.int .i64 r))) (D := []) (A := []) Try.func153 rfl Try.ntmps153 rfl (a2_fr _ _) (SH.start w) ?_
  have hb := stp_bd n r
  refine wpS_seq ?_
  refine wpS_region ?_
  refine s_y (v := .int .i64 0) (y_assign rfl) rfl ?_
  refine wpL_nil ?_
  refine thenS_n ?_
  refine wpS_seq ?_
  refine wpS_region ?_
  refine s_y (v := .int .i64 n) (y_move rfl) rfl ?_
  refine s_y (v := .int .i64 r) (y_move rfl) rfl ?_
  refine s_y (v := .tuple #[.int .i64 ((((stp n r).1 : Nat) : Int)), .int .i64 ((((stp n r).2 : Nat) : Int)), .bool (decide (0 < (stp n r).1))]) (y_call (args := #[.int .i64 n, .int .i64 r]) (v := .tuple #[.int .i64 ((((stp n r).1 : Nat) : Int)), .int .i64 ((((stp n r).2 : Nat) : Int)), .bool (decide (0 < (stp n r).1))]) Try.call158 (ev2 rfl rfl) (fun w hs => step_c n r (by omega) (by omega) (by omega) (by omega) w)) rfl ?_
  refine s_y (v := .tuple #[.int .i64 ((((stp n r).1 : Nat) : Int)), .int .i64 ((((stp n r).2 : Nat) : Int)), .bool (decide (0 < (stp n r).1))]) (y_move rfl) rfl ?_
  refine s_y (v := .int .i64 ((((stp n r).1 : Nat) : Int))) (y_extract (v := .int .i64 ((((stp n r).1 : Nat) : Int))) rfl rfl) rfl ?_
  refine s_y (v := .int .i64 ((((stp n r).2 : Nat) : Int))) (y_extract (v := .int .i64 ((((stp n r).2 : Nat) : Int))) rfl rfl) rfl ?_
  refine s_y (v := .bool (decide (0 < (stp n r).1))) (y_extract (v := .bool (decide (0 < (stp n r).1))) rfl rfl) rfl ?_
  refine s_y (v := .int .i64 ((((stp n r).1 : Nat) : Int))) (y_assign rfl) rfl ?_
  refine s_y (v := .int .i64 ((((stp n r).2 : Nat) : Int))) (y_assign rfl) rfl ?_
  refine s_y (v := .bool (decide (0 < (stp n r).1))) (y_assign rfl) rfl ?_
  refine wpL_nil ?_
  refine thenS_n ?_
  refine wpS_seq ?_
  refine wpS_seq ?_
  refine wpS_region ?_
  refine s_y (v := .bool (decide (0 < (stp n r).1))) (y_move rfl) rfl ?_
  refine s_y (v := .bool (!(decide (0 < (stp n r).1)))) (y_not (b := decide (0 < (stp n r).1)) rfl) rfl ?_
  refine wpL_nil ?_
  refine thenS_n ?_
  refine wpS_cond (t := !(decide (0 < (stp n r).1))) rfl (fun b1 => ?_) (fun b1 => ?_)
  · -- !(decide (0 < (stp n r).1)) true
    have b2 : (decide (0 < (stp n r).1)) = false := by simpa using b1
    have p2 := of_decide_eq_false b2
    refine wpS_seq ?_
    refine wpS_region ?_
    refine s_y (v := .int .i64 0) (y_assign rfl) rfl ?_
    refine wpL_nil ?_
    refine thenS_n ?_
    refine wpS_ret ?_
    refine thenS_r ?_
    refine fin1 (M := []) (v := .int .i64 0) (.inr rfl) (.nil) Try.results153 rfl ?_
    exact fun w' hs => ⟨congrArg (fun n : Nat => Ending.returned (.int .i64 (n : Int))) (by unfold far; simp [*]), hs⟩
  · -- !(decide (0 < (stp n r).1)) false
    have b3 : (decide (0 < (stp n r).1)) = true := by simpa using b1
    have p3 := of_decide_eq_true b3
    refine wpS_skip ?_
    refine thenS_n ?_
    refine wpS_seq ?_
    refine wpS_region ?_
    refine s_y (v := .int .i64 ((((stp n r).2 : Nat) : Int))) (y_move rfl) rfl ?_
    refine s_y (v := .int .i64 (((((stp n r).2 - 1) : Nat) : Int))) (y_sub (a := (((stp n r).2 : Nat) : Int)) (b := 1) (c := ((((stp n r).2 - 1) : Nat) : Int)) rfl rfl (wI (by omega) (by omega) (by omega))) rfl ?_
    refine s_y (v := .int .i64 ((((2 ^ ((stp n r).2 - 1)) : Nat) : Int))) (y_shl (a := 1) (b := ((((stp n r).2 - 1) : Nat) : Int)) (c := (((2 ^ ((stp n r).2 - 1)) : Nat) : Int)) rfl rfl (by omega) (z1_shl ((((stp n r).2 - 1) : Nat) : Int) (by omega) (by omega))) rfl ?_
    refine s_y (v := .int .i64 ((((2 ^ ((stp n r).2 - 1)) : Nat) : Int))) (y_assign rfl) rfl ?_
    refine wpL_nil ?_
    refine thenS_n ?_
    refine wpS_ret ?_
    refine fin1 (M := []) (v := .int .i64 ((((2 ^ ((stp n r).2 - 1)) : Nat) : Int))) (.inr rfl) (.nil) Try.results153 rfl ?_
    exact fun w' hs => ⟨congrArg (fun n : Nat => Ending.returned (.int .i64 (n : Int))) (by unfold far; simp [*]), hs⟩

/-- the first places of the pairs of a round -/
def frs (n r : Int) : List Nat := if far n r = 0 then [] else Bit.firsts n.toNat (far n r)
theorem far_pow {n r : Int} (h : 0 < far n r) : far n r = 2 ^ ((stp n r).2 - 1) := by
  unfold far at *
  split at h
  · rw [if_pos (by assumption)]
  · omega
theorem far_le (n r : Int) : far n r ≤ 32768 := by
  have hb := stp_bd n r
  unfold far
  split
  · have := Nat.pow_le_pow_right (n := 2) (by decide) (show (stp n r).2 - 1 ≤ 15 by omega)
    omega
  · omega
theorem and_bit {n r : Int} (h : 0 < far n r) {a : Nat} : (a &&& far n r = 0) ↔ a / far n r % 2 = 0 := by
  rw [far_pow h]
  generalize (stp n r).2 - 1 = j
  have e : a.testBit j = decide (a / 2 ^ j % 2 = 1) := Nat.testBit_eq_decide_div_mod_eq
  constructor
  · intro h0
    have h1 : (a &&& 2 ^ j).testBit j = false := by rw [h0]; exact Nat.zero_testBit j
    rw [Nat.testBit_and, Nat.testBit_two_pow_self, Bool.and_true, e, decide_eq_false_iff_not] at h1
    omega
  · intro h0
    apply Nat.eq_of_testBit_eq
    intro i
    rw [Nat.testBit_and, Nat.testBit_two_pow, Nat.zero_testBit]
    by_cases hji : j = i
    · subst hji; rw [e, h0]; rfl
    · simp [hji]
theorem far_n {n r : Int} (h : 0 < far n r) : n ≤ 65536 := by
  unfold far at h
  split at h
  · rename_i h1
    have h2 : 0 < stgN n := by
      by_cases hr : r < 0
      · unfold stp at h1; rw [if_pos hr] at h1; cases h1
      · rw [stp_at hr] at h1
        have := (stpA_bd (stgN n) 1 r.toNat (by omega)).1
        omega
    have h3 := stgN_eq n
    have h4 : stg n ≠ -1 := by omega
    unfold stg at h4
    split at h4
    · omega
    · exact absurd rfl h4
  · omega
theorem frs_none {n r : Int} (h : far n r = 0) : (frs n r).length = 0 := by unfold frs; rw [if_pos h]; rfl
theorem firsts_app (d : Nat) : ∀ (m a : Nat), a ≤ m → ∃ t, Bit.firsts m d = Bit.firsts a d ++ t
  | 0, a, h => by obtain rfl : a = 0 := by omega
                  exact ⟨[], by simp⟩
  | m + 1, a, h => by
    by_cases e : a = m + 1
    · subst e; exact ⟨[], by simp⟩
    · obtain ⟨t, ht⟩ := firsts_app d m a (by omega)
      rw [Bit.firsts_succ, ht]
      split
      · exact ⟨t ++ [m], by simp⟩
      · exact ⟨t, rfl⟩
theorem frs_at {n r : Int} {a : Nat} (h : 0 < far n r) (ha : (a : Int) < n) (hb : a / far n r % 2 = 0) : (Bit.firsts a (far n r)).length < (frs n r).length ∧ (frs n r).getD (Bit.firsts a (far n r)).length 0 = a := by
  unfold frs
  rw [if_neg (by omega)]
  obtain ⟨t, ht⟩ := firsts_app (far n r) n.toNat (a + 1) (by omega)
  rw [Bit.firsts_succ, if_pos hb] at ht
  rw [ht]
  constructor
  · simp only [List.length_append, List.length_cons, List.length_nil]; omega
  · rw [List.getD_eq_getElem?_getD, List.append_assoc, List.getElem?_append_right (Nat.le_refl _), Nat.sub_self]
    rfl
theorem frs_lt {n r : Int} {a : Nat} (h : 0 < far n r) (ha : (a : Int) < n) (hb : a / far n r % 2 = 0) : (Bit.firsts a (far n r)).length < (frs n r).length := (frs_at h ha hb).1
theorem frs_enc {n r : Int} {a : Nat} (h : 0 < far n r) (ha : (a : Int) < n) (hb : a / far n r % 2 = 0) :
    (#[.int .i64 ((a : Nat) : Int), .int .i64 (((a + far n r) : Nat) : Int)] : Array Value) = #[.int .i64 (((frs n r).getD (Bit.firsts a (far n r)).length 0 : Nat) : Int), .int .i64 (((frs n r).getD (Bit.firsts a (far n r)).length 0 + far n r : Nat) : Int)] := by
  rw [(frs_at h ha hb).2]
theorem frs_all {n r : Int} {a : Nat} (h : 0 < far n r) (ha : a = n.toNat) : (Bit.firsts a (far n r)).length = (frs n r).length := by
  unfold frs
  rw [if_neg (by omega), ha]
theorem firsts_len1 {d a : Nat} (hb : a / d % 2 = 0) : (Bit.firsts (a + 1) d).length = (Bit.firsts a d).length + 1 := by rw [Bit.firsts_succ, if_pos hb]; simp
theorem firsts_len0 {d a : Nat} (hb : ¬ a / d % 2 = 0) : (Bit.firsts (a + 1) d).length = (Bit.firsts a d).length := by rw [Bit.firsts_succ, if_neg hb]

theorem round_c (n r : Int) (w : World) : Makes Try.prog 53 #[.int .i64 n, .int .i64 r] w [] (X := Nat × Nat) (fun x : Nat × Nat => .func (.func 152) #[] #[.pointer (some ⟨x.1, 0, none⟩), .pointer (some ⟨x.2, 0, none⟩)]) (fun x : Nat × Nat => [cel x.1 3 [.int .i64 n], cel x.2 3 [.int .i64 r]]) (fun _ => True) := by
  refine calls_S (n := 6) (σ0 := (upd (upd fr0 0 (.int .i64 n)) 1 (.int .i64 r))) (D := []) (A := []) Try.func53 rfl Try.ntmps53 rfl (a2_fr _ _) (SH.start w) ?_
  refine wpS_seq ?_
  refine wpS_region ?_
  refine s_e rfl ?_
  refine e_box (v := .int .i64 n) (l := [.int .i64 n]) rfl rfl ?_
  intro b_1
  refine s_e rfl ?_
  refine e_box (v := .int .i64 r) (l := [.int .i64 r]) rfl rfl ?_
  intro b_2
  refine s_y (v := .nilFunc) (y_assign rfl) rfl ?_
  refine wpL_nil ?_
  refine thenS_n ?_
  refine wpS_seq ?_
  refine wpS_region ?_
  refine s_y (v := .func (.func 152) #[] #[.pointer (some ⟨b_1, 0, none⟩), .pointer (some ⟨b_2, 0, none⟩)]) (y_makeFunc (a := #[]) (b := #[.pointer (some ⟨b_1, 0, none⟩), .pointer (some ⟨b_2, 0, none⟩)]) ev0 (ev2 rfl rfl)) rfl ?_
  refine s_y (v := .func (.func 152) #[] #[.pointer (some ⟨b_1, 0, none⟩), .pointer (some ⟨b_2, 0, none⟩)]) (y_assign rfl) rfl ?_
  refine wpL_nil ?_
  refine thenS_n ?_
  refine wpS_ret ?_
  refine fin1 (M := [cel b_1 3 [.int .i64 n], cel b_2 3 [.int .i64 r]]) (v := .func (.func 152) #[] #[.pointer (some ⟨b_1, 0, none⟩), .pointer (some ⟨b_2, 0, none⟩)]) (.inr rfl) (.p (.t .h) (.p .h .nil)) Try.results53 rfl ?_
  exact fun w' hs => ⟨(b_1, b_2), rfl, hs, trivial⟩

theorem round_it (b2 b3 : Nat) (n r : Int) (n1 : -9223372036854775808 ≤ n) (n2 : n < 9223372036854775808) (r1 : -9223372036854775808 ≤ r) (r2 : r < 9223372036854775808) (w : World) (hb2 : w.cell? ⟨b2, 0, none⟩ = some (.int .i64 n)) (hb3 : w.cell? ⟨b3, 0, none⟩ = some (.int .i64 r)) : Iter Try.prog 152 #[.pointer (some ⟨b2, 0, none⟩), .pointer (some ⟨b3, 0, none⟩)] (fun k => #[.int .i64 (((frs n r).getD k 0 : Nat) : Int), .int .i64 (((frs n r).getD k 0 + far n r : Nat) : Int)]) ((frs n r).length) (fun x => x = b2 ∨ x = b3) w := by
  intro yv I E A hrd hI hA hY
  show Calls Try.prog 152 #[yv, .pointer (some ⟨b2, 0, none⟩), .pointer (some ⟨b3, 0, none⟩)] w _
  refine calls_S (n := 29) (σ0 := (upd (upd (upd fr0 0 (yv)) 1 (.pointer (some ⟨b2, 0, none⟩))) 2 (.pointer (some ⟨b3, 0, none⟩)))) (D := (A.flatMap Res.fp)) (A := A) Try.func152 rfl Try.ntmps152 rfl (a3_fr _ _ _) hA ?_
  have hfl := far_le n r
  refine wpS_seq ?_
  refine wpS_region ?_
  refine s_y (v := .int .i64 n) (y_load1 (v := .int .i64 n) rfl Try.isAgg3 (old1 hb2 (hrd _ (by simp)))) rfl ?_
  refine s_y (v := .int .i64 r) (y_load1 (v := .int .i64 r) rfl Try.isAgg3 (old1 hb3 (hrd _ (by simp)))) rfl ?_
  refine s_y (v := .int .i64 ((((far n r) : Nat) : Int))) (y_call (args := #[.int .i64 n, .int .i64 r]) (v := .int .i64 ((((far n r) : Nat) : Int))) Try.call153 (ev2 rfl rfl) (fun w hs => far_c n r (by omega) (by omega) (by omega) (by omega) w)) rfl ?_
  refine s_y (v := .int .i64 ((((far n r) : Nat) : Int))) (y_assign rfl) rfl ?_
  refine wpL_nil ?_
  refine thenS_n ?_
  refine wpS_seq ?_
  refine wpS_seq ?_
  refine wpS_region ?_
  refine s_y (v := .int .i64 ((((far n r) : Nat) : Int))) (y_move rfl) rfl ?_
  refine s_y (v := .bool (decide (((far n r) : Nat) = 0))) (y_eql (a := (((far n r) : Nat) : Int)) (b := 0) (c := decide (((far n r) : Nat) = 0)) rfl rfl (decide_eq_decide.2 (by omega))) rfl ?_
  refine wpL_nil ?_
  refine thenS_n ?_
  refine wpS_cond (t := decide (((far n r) : Nat) = 0)) rfl (fun b1 => ?_) (fun b1 => ?_)
  · -- decide (((far n r) : Nat) = 0) true
    have p1 := of_decide_eq_true b1
    refine wpS_ret ?_
    refine thenS_r ?_
    exact fin0 (.inr rfl) ((Ent.refl _)) Try.results152 (fun w' hs => ⟨rfl, A, hs, .inl (by rw [frs_none (by omega)]; exact hI)⟩)
  · -- decide (((far n r) : Nat) = 0) false
    have p1 := of_decide_eq_false b1
    have hfar : 0 < far n r := by omega
    have hn6 := far_n hfar
    refine wpS_skip ?_
    refine thenS_n ?_
    refine wpS_seq ?_
    refine wpS_region ?_
    refine s_y (v := .int .i64 n) (y_load1 (v := .int .i64 n) rfl Try.isAgg3 (old1 hb2 (hrd _ (by simp)))) rfl ?_
    refine s_y (v := .int .i64 0) (y_move rfl) rfl ?_
    refine wpL_nil ?_
    refine thenS_n ?_
    refine wpS_block ?_
    refine wpS_loop (fun m ds σ L => ∃ a : Nat, ∃ A1 : List Res, m = n.toNat - a ∧ (a ≤ n.toNat) ∧ (I (Bit.firsts a (far n r)).length A1) ∧ ds = [] ∧ σ 0 = yv ∧ σ 4 = .int .i64 ((((far n r) : Nat) : Int)) ∧ σ 11 = .int .i64 n ∧ σ 12 = .int .i64 (((a : Nat) : Int)) ∧ Ent L (A1)) (m0 := n.toNat - 0) ⟨0, A, rfl, by omega, hI, rfl, rfl, rfl, rfl, rfl, (Ent.refl _)⟩ ?_
    rintro m ds σ L ⟨a, A1, hm_2, hf0_2, hf1_2, rfl, h0_2, h4_2, h11_2, h12_2, hE_2⟩
    refine wpS_ent hE_2 ?_; clear hE_2
    refine wpS_seq ?_
    refine wpS_region ?_
    refine s_y (v := .bool (decide ((((a : Nat) : Int) : Int) < n))) (y_lss (a := ((a : Nat) : Int)) (b := n) h12_2 h11_2 rfl) rfl ?_
    refine wpL_nil ?_
    refine thenS_n ?_
    refine wpS_seq ?_
    refine wpS_cond (t := decide ((((a : Nat) : Int) : Int) < n)) rfl (fun b3 => ?_) (fun b3 => ?_)
    · -- decide ((((a : Nat) : Int) : Int) < n) true
      have p3 := of_decide_eq_true b3
      refine wpS_skip ?_
      refine thenS_n ?_
      refine wpS_seq ?_
      refine wpS_block ?_
      refine wpS_seq ?_
      refine wpS_region ?_
      refine s_y (v := .int .i64 (((a : Nat) : Int))) (y_move h12_2) rfl ?_
      refine s_y (v := .int .i64 (((a : Nat) : Int))) (y_assign rfl) rfl ?_
      refine wpL_nil ?_
      refine thenS_n ?_
      refine wpS_seq ?_
      refine wpS_region ?_
      refine s_y (v := .int .i64 (((a : Nat) : Int))) (y_move rfl) rfl ?_
      refine s_y (v := .int .i64 ((((far n r) : Nat) : Int))) (y_move h4_2) rfl ?_
      refine s_y (v := .int .i64 ((((a &&& (far n r)) : Nat) : Int))) (y_and (a := ((a : Nat) : Int)) (b := (((far n r) : Nat) : Int)) (c := (((a &&& (far n r)) : Nat) : Int)) rfl rfl (zi_and ((a : Nat) : Int) (((far n r) : Nat) : Int) (by omega) (by omega) (by omega) (by omega))) rfl ?_
      refine s_y (v := .bool (decide (((a &&& (far n r)) : Nat) = 0))) (y_eql (a := (((a &&& (far n r)) : Nat) : Int)) (b := 0) (c := decide (((a &&& (far n r)) : Nat) = 0)) rfl rfl (decide_eq_decide.2 (by omega))) rfl ?_
      refine s_y (v := .bool (decide (((a &&& (far n r)) : Nat) = 0))) (y_move rfl) rfl ?_
      rcases Bool.eq_false_or_eq_true (decide (((a &&& (far n r)) : Nat) = 0)) with b4 | b4
      · -- decide (((a &&& (far n r)) : Nat) = 0) True
        have p4 := of_decide_eq_true b4
        have hbitb4 := (and_bit hfar).1 (by omega)
        refine s_gy (y_move h0_2) rfl rfl rfl rfl (b' := decide (((a &&& (far n r)) : Nat) = 0)) rfl b4 ?_
        refine s_gy (y_move rfl) rfl rfl rfl rfl (b' := decide (((a &&& (far n r)) : Nat) = 0)) rfl b4 ?_
        refine s_gy (y_move rfl) rfl rfl rfl rfl (b' := decide (((a &&& (far n r)) : Nat) = 0)) rfl b4 ?_
        refine s_gy (y_move h4_2) rfl rfl rfl rfl (b' := decide (((a &&& (far n r)) : Nat) = 0)) rfl b4 ?_
        refine s_gy (y_add (a := ((a : Nat) : Int)) (b := (((far n r) : Nat) : Int)) (c := (((a + (far n r)) : Nat) : Int)) rfl rfl (wI (by omega) (by omega) (by omega))) rfl rfl rfl rfl (b' := decide (((a &&& (far n r)) : Nat) = 0)) rfl b4 ?_
        refine s_ge rfl rfl rfl rfl (b' := decide (((a &&& (far n r)) : Nat) = 0)) rfl b4 ?_
        refine e_yield (own := []) (A := A1) (enc := (fun k => #[.int .i64 (((frs n r).getD k 0 : Nat) : Int), .int .i64 (((frs n r).getD k 0 + far n r : Nat) : Int)])) (k := ((Bit.firsts a (far n r)).length)) hY rfl ((ev2 rfl rfl).trans (frs_enc hfar (by omega) (by assumption))) (frs_lt hfar (by omega) (by assumption)) (by assumption) ?_ ?_
        · intro A_5 hI_6
          refine s_gy (y_notK (b := true) (c := false) rfl rfl) rfl rfl rfl rfl (b' := decide (((a &&& (far n r)) : Nat) = 0)) rfl b4 ?_
          refine s_y (v := .bool false) (y_pickT (b := decide (((a &&& (far n r)) : Nat) = 0)) (v := .bool false) rfl b4 rfl) rfl ?_
          refine wpL_nil ?_
          refine thenS_n ?_
          refine wpS_cond_f rfl ?_
          refine wpS_skip ?_
          refine blockS_n ?_
          refine thenS_n ?_
          refine wpS_region ?_
          refine s_y (v := .int .i64 ((((a + 1) : Nat) : Int))) (y_add (a := ((a : Nat) : Int)) (b := 1) (c := (((a + 1) : Nat) : Int)) h12_2 rfl (wI (by omega) (by omega) (by omega))) rfl ?_
          refine s_y (v := .int .i64 ((((a + 1) : Nat) : Int))) (y_move rfl) rfl ?_
          refine wpL_nil ?_
          refine thenS_n ?_
          exact ⟨_, by omega, ⟨(a + 1), A_5, rfl, by omega, (by rw [firsts_len1 (by assumption)]; exact hI_6), rfl, h0_2, h4_2, h11_2, rfl, (Ent.refl _)⟩⟩
        · intro A_7 hI_8
          refine s_gy (y_notK (b := false) (c := true) rfl rfl) rfl rfl rfl rfl (b' := decide (((a &&& (far n r)) : Nat) = 0)) rfl b4 ?_
          refine s_y (v := .bool true) (y_pickT (b := decide (((a &&& (far n r)) : Nat) = 0)) (v := .bool true) rfl b4 rfl) rfl ?_
          refine wpL_nil ?_
          refine thenS_n ?_
          refine wpS_cond_t rfl ?_
          refine wpS_ret ?_
          refine blockS_r ?_
          refine thenS_r ?_
          refine thenS_r ?_
          refine blockS_r ?_
          exact fin0 (.inr rfl) ((Ent.refl _)) Try.results152 (fun w' hs => ⟨rfl, A_7, hs, .inr ⟨_, frs_lt hfar (by omega) (by assumption), hI_8⟩⟩)
      · -- decide (((a &&& (far n r)) : Nat) = 0) False
        have p4 := of_decide_eq_false b4
        have hbitb4 := mt (and_bit hfar).2 (by omega)
        refine s_no rfl rfl rfl rfl (b' := decide (((a &&& (far n r)) : Nat) = 0)) rfl b4 ?_
        refine s_no rfl rfl rfl rfl (b' := decide (((a &&& (far n r)) : Nat) = 0)) rfl b4 ?_
        refine s_no rfl rfl rfl rfl (b' := decide (((a &&& (far n r)) : Nat) = 0)) rfl b4 ?_
        refine s_no rfl rfl rfl rfl (b' := decide (((a &&& (far n r)) : Nat) = 0)) rfl b4 ?_
        refine s_no rfl rfl rfl rfl (b' := decide (((a &&& (far n r)) : Nat) = 0)) rfl b4 ?_
        refine s_no rfl rfl rfl rfl (b' := decide (((a &&& (far n r)) : Nat) = 0)) rfl b4 ?_
        refine s_no rfl rfl rfl rfl (b' := decide (((a &&& (far n r)) : Nat) = 0)) rfl b4 ?_
        refine s_y (v := .bool false) (y_pickF (b := decide (((a &&& (far n r)) : Nat) = 0)) (v := .bool false) rfl b4 rfl) rfl ?_
        refine wpL_nil ?_
        refine thenS_n ?_
        refine wpS_cond_f rfl ?_
        refine wpS_skip ?_
        refine blockS_n ?_
        refine thenS_n ?_
        refine wpS_region ?_
        refine s_y (v := .int .i64 ((((a + 1) : Nat) : Int))) (y_add (a := ((a : Nat) : Int)) (b := 1) (c := (((a + 1) : Nat) : Int)) h12_2 rfl (wI (by omega) (by omega) (by omega))) rfl ?_
        refine s_y (v := .int .i64 ((((a + 1) : Nat) : Int))) (y_move rfl) rfl ?_
        refine wpL_nil ?_
        refine thenS_n ?_
        exact ⟨_, by omega, ⟨(a + 1), A1, rfl, by omega, (by rw [firsts_len0 (by assumption)]; assumption), rfl, h0_2, h4_2, h11_2, rfl, (Ent.refl _)⟩⟩
    · -- decide ((((a : Nat) : Int) : Int) < n) false
      have p3 := of_decide_eq_false b3
      refine wpS_exit ?_
      refine thenS_x ?_
      refine thenS_x ?_
      refine blockS_h ?_
      exact fin0 (.inl rfl) ((Ent.refl _)) Try.results152 (fun w' hs => ⟨rfl, A1, hs, .inl (by rw [← frs_all hfar (a := a) (by omega)]; assumption)⟩)

theorem round_at (b2 b3 : Nat) (n r : Int) (n1 : -9223372036854775808 ≤ n) (n2 : n < 9223372036854775808) (r1 : -9223372036854775808 ≤ r) (r2 : r < 9223372036854775808) (w : World) (hb2 : w.cell? ⟨b2, 0, none⟩ = some (.int .i64 n)) (hb3 : w.cell? ⟨b3, 0, none⟩ = some (.int .i64 r)) :
    IterAt Try.prog 152 #[.pointer (some ⟨b2, 0, none⟩), .pointer (some ⟨b3, 0, none⟩)] (fun k => #[.int .i64 (((frs n r).getD k 0 : Nat) : Int), .int .i64 (((frs n r).getD k 0 + far n r : Nat) : Int)]) (frs n r).length (fun x => x = b2 ∨ x = b3) w :=
  ⟨fun w' hs => round_it b2 b3 n r n1 n2 r1 r2 w' (cell_old hb2 hs) (cell_old hb3 hs), by rintro b (rfl | rfl); exact cell_lt hb2; exact cell_lt hb3⟩

end Go.Proofs.Ytldkjjnjdjfipaa
