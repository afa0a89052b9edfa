/- The reference's network, walked. -/
import Derived.Test.YtldkjjnjdjfipaaWSeq
namespace Go.Proofs.Ytldkjjnjdjfipaa
open Go Go.RowKit
set_option linter.unusedVariables false
set_option linter.unusedSimpArgs false
set_option maxRecDepth 10000

theorem padlt {n : Int} {i : Nat} (h : ((2 ^ i : Nat) : Int) < min n 65536) : i < blen (clampP n - 1) := by
  have h1 := lt_blen (clampP n - 1)
  have h2 : 2 ^ i < clampP n := by unfold clampP; omega
  have h3 : 2 ^ i < 2 ^ blen (clampP n - 1) := by omega
  exact (Nat.pow_lt_pow_iff_right (by decide)).1 h3
theorem padend {n : Int} {i : Nat} (hi : i ≤ blen (clampP n - 1)) (h : ¬ ((2 ^ i : Nat) : Int) < min n 65536) : 2 ^ i = pad n := by
  unfold pad
  rcases Nat.lt_or_ge i (blen (clampP n - 1)) with h1 | h1
  · exfalso
    have hc : 0 < clampP n - 1 := by
      rcases Nat.eq_zero_or_pos (clampP n - 1) with h0 | h0
      · rw [h0] at h1; simp [blen] at h1
      · exact h0
    have h2 := blen_ge hc
    have h3 := Nat.pow_le_pow_right (n := 2) (by decide) (show i ≤ blen (clampP n - 1) - 1 by omega)
    have h4 : ((clampP n : Nat) : Int) = max 1 (min n 65536) := by unfold clampP; omega
    omega
  · rw [show i = blen (clampP n - 1) by omega]
theorem pow_and {n : Nat} (h : 0 < n) (h0 : n &&& (n - 1) = 0) : n = 2 ^ (blen n - 1) := by
  have h1 := blen_ge h
  have h2 := lt_blen n
  have hb : 0 < blen n := by unfold blen; rw [if_neg (by omega)]; omega
  generalize hk : blen n - 1 = k at *
  rw [show blen n = k + 1 by omega] at h2
  by_cases he : n = 2 ^ k
  · exact he
  · exfalso
    have t1 : n.testBit k = true := by rw [Nat.testBit_eq_decide_div_mod_eq]; rw [Nat.pow_succ] at h2; have : n / 2 ^ k = 1 := by
                                         rw [Nat.div_eq_iff (Nat.two_pow_pos k)]; omega
                                       rw [this]; rfl
    have t2 : (n - 1).testBit k = true := by rw [Nat.testBit_eq_decide_div_mod_eq]; rw [Nat.pow_succ] at h2; have : (n - 1) / 2 ^ k = 1 := by
                                               rw [Nat.div_eq_iff (Nat.two_pow_pos k)]; omega
                                             rw [this]; rfl
    have t3 : (n &&& (n - 1)).testBit k = true := by rw [Nat.testBit_and, t1, t2]; rfl
    rw [h0, Nat.zero_testBit] at t3
    cases t3
theorem blen_pow (j : Nat) : blen (2 ^ j) = j + 1 := blen_unique (Nat.le_refl _) (by rw [Nat.pow_succ]; have := Nat.two_pow_pos j; omega)
theorem stg_pow {n : Int} {j : Nat} (h : n = ((2 ^ j : Nat) : Int)) (hn : n ≤ 65536) : stg n = j := by
  subst h
  have hp := Nat.two_pow_pos j
  unfold stg
  rw [if_pos ⟨by omega, hn, by rw [Int.toNat_natCast, show (((2 ^ j : Nat) : Int) - 1).toNat = 2 ^ j - 1 by omega]; exact two_and j⟩, Int.toNat_natCast, blen_pow]
  omega
theorem stg_no {n : Int} (h : n < 1 ∨ 65536 < n ∨ ((pad n : Nat) : Int) ≠ n) : -1 = stg n := by
  unfold stg
  split
  · rename_i hc
    exfalso
    obtain ⟨h1, h2, h3⟩ := hc
    have e : (n - 1).toNat = n.toNat - 1 := by omega
    rw [e] at h3
    have h4 := pow_and (by omega) h3
    have h5 : clampP n = n.toNat := by unfold clampP; omega
    generalize hk : blen n.toNat - 1 = k at h4
    have h6 : pad n = n.toNat := by
      unfold pad
      rw [h5, h4]
      congr 1
      rcases Nat.eq_zero_or_pos k with h0 | h0
      · subst h0; rfl
      · obtain ⟨m, rfl⟩ : ∃ m, k = m + 1 := ⟨k - 1, by omega⟩
        refine blen_unique ?_ ?_ <;> rw [Nat.pow_succ] <;> have := Nat.two_pow_pos m <;> omega
    omega
  · rfl
theorem powlt {n : Int} {i : Nat} (hp : ((pad n : Nat) : Int) = n) (h : ((2 ^ i : Nat) : Int) < n) : i < blen (clampP n - 1) := by
  unfold pad at hp
  rw [← hp] at h
  exact (Nat.pow_lt_pow_iff_right (by decide)).1 (Int.ofNat_lt.1 h)
theorem stg_yes {n : Int} {i : Nat} (h1 : 1 ≤ n) (h2 : n ≤ 65536) (hp : ((pad n : Nat) : Int) = n) (hi : i ≤ blen (clampP n - 1)) (h : ¬ ((2 ^ i : Nat) : Int) < n) : stg n = (i : Int) := by
  have hj : i = blen (clampP n - 1) := by
    rcases Nat.lt_or_ge i (blen (clampP n - 1)) with h3 | h3
    · have := (Nat.pow_lt_pow_iff_right (a := 2) (by decide)).2 h3
      unfold pad at hp
      omega
    · omega
  exact stg_pow (by rw [← hp, hj]; rfl) h2
theorem stgT_mul {n : Int} (h : 0 ≤ stg n) : IntKind.i64.wrap (stg n * ((((stg n).toNat + 1 : Nat)) : Int)) = (((stg n).toNat * ((stg n).toNat + 1) : Nat) : Int) := by
  have hb := stg_bd n
  obtain ⟨m, hm⟩ := Int.eq_ofNat_of_zero_le h
  rw [hm]
  have h2 : m * (m + 1) ≤ 16 * 17 := Nat.mul_le_mul (by omega) (by omega)
  simp only [Int.toNat_natCast]
  exact wI (by rw [Int.natCast_mul]) (by omega) (by omega)
theorem stpA_zero {K : Nat} : ∀ s a, tri K ≤ a + tri (s - 1) → 1 ≤ s → stpA K s a = (0, 0) := by
  intro s a
  induction s, a using stpA.induct (K := K) with
  | case1 s a h h2 =>
    intro h3 h4
    exfalso
    have h5 : tri s = tri (s - 1) + s := by have := tri_succ (s - 1); rw [show s - 1 + 1 = s by omega] at this; exact this
    have : tri s ≤ tri K := Bit.tri_mono h
    omega
  | case2 s a h h2 ih =>
    intro h3 h4
    have h5 : tri s = tri (s - 1) + s := by have := tri_succ (s - 1); rw [show s - 1 + 1 = s by omega] at this; exact this
    rw [stpA_next h h2]
    exact ih (by rw [Nat.add_sub_cancel]; omega) (by omega)
  | case3 s a h => intro _ _; exact stpA_out h
theorem stp_zero {n r : Int} (h : r < 0 ∨ ((rnd n : Nat) : Int) ≤ r) : stp n r = (0, 0) := by
  by_cases hr : r < 0
  · unfold stp; rw [if_pos hr]
  · rw [stp_at hr]
    refine stpA_zero 1 _ ?_ (by omega)
    have : rnd n = tri (stgN n) := rfl
    omega
theorem tri_room {s K a r : Nat} (h1 : 1 ≤ s) (h : a + tri (s - 1) = r) (hr : r < tri K) (ha : s ≤ a) : s + 1 ≤ K := by
  have h5 : tri s = tri (s - 1) + s := by have := tri_succ (s - 1); rw [show s - 1 + 1 = s by omega] at this; exact this
  rcases Nat.lt_or_ge s K with h2 | h2
  · omega
  · have : tri K ≤ tri s := Bit.tri_mono h2
    omega
theorem tri_dec {s a r : Nat} (h1 : 1 ≤ s) (h : a + tri (s - 1) = r) (ha : s ≤ a) : a - s + tri (s + 1 - 1) = r := by
  have h5 : tri s = tri (s - 1) + s := by have := tri_succ (s - 1); rw [show s - 1 + 1 = s by omega] at this; exact this
  rw [Nat.add_sub_cancel]; omega
/-- the first places, as numbers -/
def frsZ (n r : Int) : List Int := (frs n r).map fun (a : Nat) => (a : Int)
def frsTo (n r : Int) (a : Nat) : List Int := (Bit.firsts a (2 ^ ((stp n r).2 - 1))).map fun (a : Nat) => (a : Int)
theorem frsTo_next {n r : Int} {a : Nat} (h0 : a / 2 ^ ((stp n r).2 - 1) % 2 = 0) (h : True) : frsTo n r a ++ [(a : Int)] = frsTo n r (a + 1) := by
  unfold frsTo; rw [Bit.firsts_succ, if_pos h0]; simp
theorem frsTo_skip {n r : Int} {a : Nat} (h0 : ¬ a / 2 ^ ((stp n r).2 - 1) % 2 = 0) : frsTo n r (a + 1) = frsTo n r a := by
  unfold frsTo; rw [Bit.firsts_succ, if_neg h0]
theorem frsTo_le (n r : Int) (a : Nat) : (frsTo n r a).length ≤ a := by
  unfold frsTo
  rw [List.length_map]
  have := List.length_filter_le (fun a => decide (a / 2 ^ ((stp n r).2 - 1) % 2 = 0)) (List.range a)
  rw [List.length_range] at this
  exact this
theorem far_none {n r : Int} (h : (stp n r).1 = 0) : far n r = 0 := by unfold far; rw [if_neg (by omega)]
theorem far_yes {n r : Int} (h : 0 < (stp n r).1) : far n r = 2 ^ ((stp n r).2 - 1) := by unfold far; rw [if_pos h]
theorem frsZ_none {n r : Int} (h : (stp n r).1 = 0) : frsZ n r = [] := by unfold frsZ frs; rw [if_pos (far_none h)]; rfl
theorem frsTo_all {n r : Int} {a : Nat} (h : 0 < (stp n r).1) (ha : a = n.toNat) : frsTo n r a = frsZ n r := by
  unfold frsZ frs frsTo
  have := Nat.two_pow_pos ((stp n r).2 - 1)
  rw [far_yes h, if_neg (by omega), ha]
theorem up_f {n r a : Int} (h : (stp n r).1 = 0 ∨ a < 0 ∨ n ≤ a ∨ a.toNat / 2 ^ ((stp n r).2 - 1) % 2 ≠ 0) : false = up n r a := by
  unfold up
  symm
  simp only [Bool.and_eq_false_iff, decide_eq_false_iff_not]
  omega
theorem up_y {n r a : Int} (h1 : ¬ (stp n r).1 = 0) (h2 : ¬ a < 0) (h3 : ¬ n ≤ a) (h4 : ¬ a.toNat / 2 ^ ((stp n r).2 - 1) % 2 ≠ 0) : decide (a.toNat / 2 ^ (stp n r).1 % 2 = 0) = up n r a := by
  unfold up
  rw [decide_eq_true (show 0 < (stp n r).1 by omega), decide_eq_true (show 0 ≤ a by omega), decide_eq_true (show a < n by omega), decide_eq_true (show a.toNat / 2 ^ ((stp n r).2 - 1) % 2 = 0 by omega)]
  simp
theorem finNil2 {P : Program} {w0 : World} {D : List Nat} {σ : Fr} {L : List Res} {e : Exit} {ds : List Nat} {fn : Func} {R : Ending → World → Prop} {x y : ResultVar} {u v : Value} {sz : Nat} {ty : TypeId} (he : e = .normal ∨ e = .ret) (hE : Ent L (ds.map dfr ++ [])) (hr : fn.results = #[x, y])
    (hu : ∀ w', SH w0 D [] w' → (evRV σ x).run P w' = .ok u w') (hv : ∀ w', SH w0 D [] w' → (evRV σ y).run P w' = .ok v w')
    (hR : ∀ w', SH w0 D [osl none 0 0 sz ty []] w' → R (.returned (.tuple #[u, v])) w') : finS P w0 D fn R e ds σ L := fin2 he hE hr hu hv fun w' hs => hR w' (SH.nil0 w' hs)

theorem rpad_c (n : Int) (n1 : -9223372036854775808 ≤ n) (n2 : n < 9223372036854775808) (w : World) : Pure Try.prog 57 #[.int .i64 n] w (.int .i64 ((((pad n) : Nat) : Int))) := by
  refine calls_S (n := 12) (σ0 := (upd fr0 0 (.int .i64 n))) (D := []) (A := []) Try.func57 rfl Try.ntmps57 rfl (a1_fr _) (SH.start w) ?_
  have hJ := padJ n
  refine wpS_seq ?_
  refine wpS_region ?_
  refine s_y (v := .int .i64 0) (y_assign rfl) rfl ?_
  refine wpL_nil ?_
  refine thenS_n ?_
  refine wpS_seq ?_
  refine wpS_region ?_
  refine s_y (v := .int .i64 n) (y_move rfl) rfl ?_
  refine s_y (v := .int .i64 (min n 65536)) (y_min (a := n) (b := 65536) (c := min n 65536) rfl rfl (by split <;> omega)) rfl ?_
  refine s_y (v := .int .i64 (min n 65536)) (y_assign rfl) rfl ?_
  refine wpL_nil ?_
  refine thenS_n ?_
  refine wpS_seq ?_
  refine wpS_region ?_
  refine s_y (v := .int .i64 1) (y_assign rfl) rfl ?_
  refine wpL_nil ?_
  refine thenS_n ?_
  refine wpS_seq ?_
  refine wpS_block ?_
  refine wpS_loop (fun m ds σ L => ∃ i : Nat, m = (blen (clampP n - 1)) - i ∧ (i ≤ (blen (clampP n - 1))) ∧ (2 ^ i ≤ 65536) ∧ ds = [] ∧ σ 0 = .int .i64 (min n 65536) ∧ σ 3 = .int .i64 ((((2 ^ i) : Nat) : Int)) ∧ Ent L []) (m0 := (blen (clampP n - 1)) - 0) ⟨0, rfl, by omega, by omega, rfl, rfl, (congrArg (Value.int .i64) (by first | omega | rfl | exact congrArg (Nat.cast : Nat → Int) (by rw [Nat.pow_succ]; omega))), .nil⟩ ?_
  rintro m ds σ L ⟨i, hm_1, hf0_1, hf1_1, rfl, h0_1, h3_1, hE_1⟩
  refine wpS_ent hE_1 ?_; clear hE_1
  refine wpS_seq ?_
  refine wpS_seq ?_
  refine wpS_region ?_
  refine s_y (v := .int .i64 ((((2 ^ i) : Nat) : Int))) (y_move h3_1) rfl ?_
  refine s_y (v := .int .i64 (min n 65536)) (y_move h0_1) rfl ?_
  refine s_y (v := .bool (decide (((((2 ^ i) : Nat) : Int) : Int) < (min n 65536)))) (y_lss (a := (((2 ^ i) : Nat) : Int)) (b := min n 65536) rfl rfl rfl) rfl ?_
  refine wpL_nil ?_
  refine thenS_n ?_
  refine wpS_cond (t := decide (((((2 ^ i) : Nat) : Int) : Int) < (min n 65536))) rfl (fun b2 => ?_) (fun b2 => ?_)
  · -- decide (((((2 ^ i) : Nat) : Int) : Int) < (min n 65536)) true
    have p2 := of_decide_eq_true b2
    have hij := padlt p2
    refine wpS_skip ?_
    refine thenS_n ?_
    refine wpS_block ?_
    refine wpS_region ?_
    refine s_y (v := .int .i64 ((((2 ^ i) : Nat) : Int))) (y_move h3_1) rfl ?_
    refine s_y (v := .int .i64 ((((2 * (2 ^ i)) : Nat) : Int))) (y_mul (a := 2) (b := (((2 ^ i) : Nat) : Int)) (c := (((2 * (2 ^ i)) : Nat) : Int)) rfl rfl (wI (by omega) (by omega) (by omega))) rfl ?_
    refine s_y (v := .int .i64 ((((2 * (2 ^ i)) : Nat) : Int))) (y_assign rfl) rfl ?_
    refine wpL_nil ?_
    refine blockS_n ?_
    refine thenS_n ?_
    exact ⟨_, by omega, ⟨(i + 1), rfl, by omega, (Nat.le_trans (Nat.pow_le_pow_right (by decide) (show i + 1 ≤ 16 by omega)) (by decide)), rfl, h0_1, (congrArg (Value.int .i64) (by first | omega | rfl | exact congrArg (Nat.cast : Nat → Int) (by rw [Nat.pow_succ]; omega))), .nil⟩⟩
  · -- decide (((((2 ^ i) : Nat) : Int) : Int) < (min n 65536)) false
    have p2 := of_decide_eq_false b2
    refine wpS_exit ?_
    refine thenS_x ?_
    refine thenS_x ?_
    refine blockS_h ?_
    refine thenS_n ?_
    refine wpS_seq ?_
    refine wpS_region ?_
    refine s_y (v := .int .i64 ((((2 ^ i) : Nat) : Int))) (y_move h3_1) rfl ?_
    refine s_y (v := .int .i64 ((((2 ^ i) : Nat) : Int))) (y_assign rfl) rfl ?_
    refine wpL_nil ?_
    refine thenS_n ?_
    refine wpS_ret ?_
    refine fin1 (M := []) (v := .int .i64 ((((2 ^ i) : Nat) : Int))) (.inr rfl) (.nil) Try.results57 rfl ?_
    exact fun w' hs => ⟨congrArg (fun n : Nat => Ending.returned (.int .i64 (n : Int))) (padend (by omega) (by assumption)), hs⟩

theorem rpow_c (n : Int) (n1 : -9223372036854775808 ≤ n) (n2 : n < 9223372036854775808) (w : World) : Pure Try.prog 155 #[.int .i64 n] w (.int .i64 (stg n)) := by
  refine calls_S (n := 24) (σ0 := (upd fr0 0 (.int .i64 n))) (D := []) (A := []) Try.func155 rfl Try.ntmps155 rfl (a1_fr _) (SH.start w) ?_
  have hJ := padJ n
  refine wpS_seq ?_
  refine wpS_region ?_
  refine s_y (v := .int .i64 0) (y_assign rfl) rfl ?_
  refine wpL_nil ?_
  refine thenS_n ?_
  refine wpS_seq ?_
  refine wpS_seq ?_
  refine wpS_region ?_
  refine s_y (v := .int .i64 n) (y_move rfl) rfl ?_
  refine s_y (v := .bool (decide ((n : Int) < 1))) (y_lss (a := n) (b := 1) rfl rfl rfl) rfl ?_
  refine s_y (v := .bool (decide ((n : Int) < 1))) (y_move rfl) rfl ?_
  rcases Bool.eq_false_or_eq_true (decide ((n : Int) < 1)) with b1 | b1
  · -- decide ((n : Int) < 1) True
    have p1 := of_decide_eq_true b1
    refine s_no rfl rfl rfl rfl (b' := decide ((n : Int) < 1)) rfl b1 ?_
    refine s_no rfl rfl rfl rfl (b' := decide ((n : Int) < 1)) rfl b1 ?_
    refine s_y (v := .bool true) (y_pickT (b := decide ((n : Int) < 1)) (v := .bool true) rfl b1 rfl) rfl ?_
    refine s_y (v := .bool true) (y_move rfl) rfl ?_
    refine s_no rfl rfl rfl rfl rfl rfl ?_
    refine s_no rfl rfl rfl rfl rfl rfl ?_
    refine s_no rfl rfl rfl rfl rfl rfl ?_
    refine s_no rfl rfl rfl rfl rfl rfl ?_
    refine s_y (v := .bool true) (y_pickT (v := .bool true) rfl rfl rfl) rfl ?_
    refine wpL_nil ?_
    refine thenS_n ?_
    refine wpS_cond_t rfl ?_
    refine wpS_seq ?_
    refine wpS_region ?_
    refine s_y (v := .int .i64 (-1)) (y_assign rfl) rfl ?_
    refine wpL_nil ?_
    refine thenS_n ?_
    refine wpS_ret ?_
    refine thenS_r ?_
    refine fin1 (M := []) (v := .int .i64 (-1)) (.inr rfl) (.nil) Try.results155 rfl ?_
    exact fun w' hs => ⟨congrArg (fun z : Int => Ending.returned (.int .i64 z)) (stg_no (n := n) (by omega)), hs⟩
  · -- decide ((n : Int) < 1) False
    have p1 := of_decide_eq_false b1
    refine s_gy (y_move rfl) rfl rfl rfl rfl (b' := decide ((n : Int) < 1)) rfl b1 ?_
    refine s_gy (y_gtr (a := n) (b := 65536) rfl rfl rfl) rfl rfl rfl rfl (b' := decide ((n : Int) < 1)) rfl b1 ?_
    refine s_y (v := .bool (decide ((65536 : Int) < n))) (y_pickF (b := decide ((n : Int) < 1)) (v := .bool (decide ((65536 : Int) < n))) rfl b1 rfl) rfl ?_
    refine s_y (v := .bool (decide ((65536 : Int) < n))) (y_move rfl) rfl ?_
    rcases Bool.eq_false_or_eq_true (decide ((65536 : Int) < n)) with b2 | b2
    · -- decide ((65536 : Int) < n) True
      have p2 := of_decide_eq_true b2
      refine s_no rfl rfl rfl rfl (b' := decide ((65536 : Int) < n)) rfl b2 ?_
      refine s_no rfl rfl rfl rfl (b' := decide ((65536 : Int) < n)) rfl b2 ?_
      refine s_no rfl rfl rfl rfl (b' := decide ((65536 : Int) < n)) rfl b2 ?_
      refine s_no rfl rfl rfl rfl (b' := decide ((65536 : Int) < n)) rfl b2 ?_
      refine s_y (v := .bool true) (y_pickT (b := decide ((65536 : Int) < n)) (v := .bool true) rfl b2 rfl) rfl ?_
      refine wpL_nil ?_
      refine thenS_n ?_
      refine wpS_cond_t rfl ?_
      refine wpS_seq ?_
      refine wpS_region ?_
      refine s_y (v := .int .i64 (-1)) (y_assign rfl) rfl ?_
      refine wpL_nil ?_
      refine thenS_n ?_
      refine wpS_ret ?_
      refine thenS_r ?_
      refine fin1 (M := []) (v := .int .i64 (-1)) (.inr rfl) (.nil) Try.results155 rfl ?_
      exact fun w' hs => ⟨congrArg (fun z : Int => Ending.returned (.int .i64 z)) (stg_no (n := n) (by omega)), hs⟩
    · -- decide ((65536 : Int) < n) False
      have p2 := of_decide_eq_false b2
      refine s_gy (y_move rfl) rfl rfl rfl rfl (b' := decide ((65536 : Int) < n)) rfl b2 ?_
      refine s_gy (y_call (args := #[.int .i64 n]) (v := .int .i64 ((((pad n) : Nat) : Int))) Try.call57 (ev1 rfl) (fun w hs => rpad_c n (by omega) (by omega) w)) rfl rfl rfl rfl (b' := decide ((65536 : Int) < n)) rfl b2 ?_
      refine s_gy (y_move rfl) rfl rfl rfl rfl (b' := decide ((65536 : Int) < n)) rfl b2 ?_
      refine s_gy (y_neq (a := (((pad n) : Nat) : Int)) (b := n) rfl rfl rfl) rfl rfl rfl rfl (b' := decide ((65536 : Int) < n)) rfl b2 ?_
      refine s_y (v := .bool (decide (((((pad n) : Nat) : Int) : Int) ≠ n))) (y_pickF (b := decide ((65536 : Int) < n)) (v := .bool (decide (((((pad n) : Nat) : Int) : Int) ≠ n))) rfl b2 rfl) rfl ?_
      refine wpL_nil ?_
      refine thenS_n ?_
      refine wpS_cond (t := decide (((((pad n) : Nat) : Int) : Int) ≠ n)) rfl (fun b3 => ?_) (fun b3 => ?_)
      · -- decide (((((pad n) : Nat) : Int) : Int) ≠ n) true
        have p3 := of_decide_eq_true b3
        refine wpS_seq ?_
        refine wpS_region ?_
        refine s_y (v := .int .i64 (-1)) (y_assign rfl) rfl ?_
        refine wpL_nil ?_
        refine thenS_n ?_
        refine wpS_ret ?_
        refine thenS_r ?_
        refine fin1 (M := []) (v := .int .i64 (-1)) (.inr rfl) (.nil) Try.results155 rfl ?_
        exact fun w' hs => ⟨congrArg (fun z : Int => Ending.returned (.int .i64 z)) (stg_no (n := n) (by omega)), hs⟩
      · -- decide (((((pad n) : Nat) : Int) : Int) ≠ n) false
        have p3 := of_decide_eq_false b3
        refine wpS_skip ?_
        refine thenS_n ?_
        refine wpS_seq ?_
        refine wpS_region ?_
        refine s_y (v := .int .i64 0) (y_assign rfl) rfl ?_
        refine wpL_nil ?_
        refine thenS_n ?_
        refine wpS_seq ?_
        refine wpS_block ?_
        refine wpS_loop (fun m ds σ L => ∃ i : Nat, m = (blen (clampP n - 1)) - i ∧ (i ≤ (blen (clampP n - 1))) ∧ ds = [] ∧ σ 0 = .int .i64 n ∧ σ 3 = .int .i64 (((i : Nat) : Int)) ∧ Ent L []) (m0 := (blen (clampP n - 1)) - 0) ⟨0, rfl, by omega, rfl, rfl, rfl, .nil⟩ ?_
        rintro m ds σ L ⟨i, hm_4, hf0_4, rfl, h0_4, h3_4, hE_4⟩
        refine wpS_ent hE_4 ?_; clear hE_4
        refine wpS_seq ?_
        refine wpS_seq ?_
        refine wpS_region ?_
        refine s_y (v := .int .i64 (((i : Nat) : Int))) (y_move h3_4) rfl ?_
        refine s_y (v := .int .u64 (((i : Nat) : Int))) (y_convI (a := ((i : Nat) : Int)) (c := ((i : Nat) : Int)) rfl Try.underlying3 Try.underlying46 (wU rfl (by omega) (by omega))) rfl ?_
        refine s_y (v := .int .i64 ((((2 ^ i) : Nat) : Int))) (y_shl (a := 1) (b := ((i : Nat) : Int)) (c := (((2 ^ i) : Nat) : Int)) rfl rfl (by omega) (z1_shl ((i : Nat) : Int) (by omega) (by omega))) rfl ?_
        refine s_y (v := .int .i64 n) (y_move h0_4) rfl ?_
        refine s_y (v := .bool (decide (((((2 ^ i) : Nat) : Int) : Int) < n))) (y_lss (a := (((2 ^ i) : Nat) : Int)) (b := n) rfl rfl rfl) rfl ?_
        refine wpL_nil ?_
        refine thenS_n ?_
        refine wpS_cond (t := decide (((((2 ^ i) : Nat) : Int) : Int) < n)) rfl (fun b5 => ?_) (fun b5 => ?_)
        · -- decide (((((2 ^ i) : Nat) : Int) : Int) < n) true
          have p5 := of_decide_eq_true b5
          have hij := powlt (n := n) (i := i) (by omega) (by omega)
          refine wpS_skip ?_
          refine thenS_n ?_
          refine wpS_block ?_
          refine wpS_region ?_
          refine s_y (v := .int .i64 (((i : Nat) : Int))) (y_move h3_4) rfl ?_
          refine s_y (v := .int .i64 ((((i + 1) : Nat) : Int))) (y_add (a := ((i : Nat) : Int)) (b := 1) (c := (((i + 1) : Nat) : Int)) rfl rfl (wI (by omega) (by omega) (by omega))) rfl ?_
          refine s_y (v := .int .i64 ((((i + 1) : Nat) : Int))) (y_assign rfl) rfl ?_
          refine wpL_nil ?_
          refine blockS_n ?_
          refine thenS_n ?_
          exact ⟨_, by omega, ⟨(i + 1), rfl, by omega, rfl, h0_4, rfl, .nil⟩⟩
        · -- decide (((((2 ^ i) : Nat) : Int) : Int) < n) false
          have p5 := of_decide_eq_false b5
          refine wpS_exit ?_
          refine thenS_x ?_
          refine thenS_x ?_
          refine blockS_h ?_
          refine thenS_n ?_
          refine wpS_seq ?_
          refine wpS_region ?_
          refine s_y (v := .int .i64 (((i : Nat) : Int))) (y_move h3_4) rfl ?_
          refine s_y (v := .int .i64 (((i : Nat) : Int))) (y_assign rfl) rfl ?_
          refine wpL_nil ?_
          refine thenS_n ?_
          refine wpS_ret ?_
          refine fin1 (M := []) (v := .int .i64 (((i : Nat) : Int))) (.inr rfl) (.nil) Try.results155 rfl ?_
          exact fun w' hs => ⟨congrArg (fun z : Int => Ending.returned (.int .i64 z)) (stg_yes (by omega) (by omega) (by omega) (by omega) (by omega)).symm, hs⟩

theorem rrnd_c (n : Int) (n1 : -9223372036854775808 ≤ n) (n2 : n < 9223372036854775808) (w : World) : Pure Try.prog 56 #[.int .i64 n] w (.int .i64 ((((rnd n) : Nat) : Int))) := by
  refine calls_S (n := 13) (σ0 := (upd fr0 0 (.int .i64 n))) (D := []) (A := []) Try.func56 rfl Try.ntmps56 rfl (a1_fr _) (SH.start w) ?_
  have hb := stg_bd n
  have hN := stgN_eq n
  have hmm : (stg n).toNat * ((stg n).toNat + 1) ≤ 16 * 17 := Nat.mul_le_mul (by omega) (by omega)
  refine wpS_seq ?_
  refine wpS_region ?_
  refine s_y (v := .int .i64 0) (y_assign rfl) rfl ?_
  refine wpL_nil ?_
  refine thenS_n ?_
  refine wpS_seq ?_
  refine wpS_region ?_
  refine s_y (v := .int .i64 n) (y_move rfl) rfl ?_
  refine s_y (v := .int .i64 (stg n)) (y_call (args := #[.int .i64 n]) (v := .int .i64 (stg n)) Try.call155 (ev1 rfl) (fun w hs => rpow_c n (by omega) (by omega) w)) rfl ?_
  refine s_y (v := .int .i64 (stg n)) (y_assign rfl) rfl ?_
  refine wpL_nil ?_
  refine thenS_n ?_
  refine wpS_seq ?_
  refine wpS_seq ?_
  refine wpS_region ?_
  refine s_y (v := .int .i64 (stg n)) (y_move rfl) rfl ?_
  refine s_y (v := .bool (decide ((stg n : Int) < 0))) (y_lss (a := stg n) (b := 0) rfl rfl rfl) rfl ?_
  refine wpL_nil ?_
  refine thenS_n ?_
  refine wpS_cond (t := decide ((stg n : Int) < 0)) rfl (fun b1 => ?_) (fun b1 => ?_)
  · -- decide ((stg n : Int) < 0) true
    have p1 := of_decide_eq_true b1
    refine wpS_seq ?_
    refine wpS_region ?_
    refine s_y (v := .int .i64 0) (y_assign rfl) rfl ?_
    refine wpL_nil ?_
    refine thenS_n ?_
    refine wpS_ret ?_
    refine thenS_r ?_
    refine fin1 (M := []) (v := .int .i64 0) (.inr rfl) (.nil) Try.results56 rfl ?_
    exact fun w' hs => ⟨congrArg (fun n : Nat => Ending.returned (.int .i64 (n : Int))) (show 0 = rnd n by unfold rnd; rw [show stgN n = 0 by omega]), hs⟩
  · -- decide ((stg n : Int) < 0) false
    have p1 := of_decide_eq_false b1
    refine wpS_skip ?_
    refine thenS_n ?_
    refine wpS_seq ?_
    refine wpS_region ?_
    refine s_y (v := .int .i64 (stg n)) (y_move rfl) rfl ?_
    refine s_y (v := .int .i64 (stg n)) (y_move rfl) rfl ?_
    refine s_y (v := .int .i64 (((((stg n).toNat + 1) : Nat) : Int))) (y_add (a := stg n) (b := 1) (c := ((((stg n).toNat + 1) : Nat) : Int)) rfl rfl (wI (by omega) (by omega) (by omega))) rfl ?_
    refine s_y (v := .int .i64 (((((stg n).toNat * ((stg n).toNat + 1)) : Nat) : Int))) (y_mul (a := stg n) (b := ((((stg n).toNat + 1) : Nat) : Int)) (c := ((((stg n).toNat * ((stg n).toNat + 1)) : Nat) : Int)) rfl rfl (stgT_mul (by omega))) rfl ?_
    refine s_y (v := .int .i64 ((((((stg n).toNat * ((stg n).toNat + 1)) / 2) : Nat) : Int))) (y_quo (a := ((((stg n).toNat * ((stg n).toNat + 1)) : Nat) : Int)) (b := 2) (c := (((((stg n).toNat * ((stg n).toNat + 1)) / 2) : Nat) : Int)) rfl rfl (by omega) (n_quo _ 2 (by omega) (by omega))) rfl ?_
    refine s_y (v := .int .i64 ((((((stg n).toNat * ((stg n).toNat + 1)) / 2) : Nat) : Int))) (y_assign rfl) rfl ?_
    refine wpL_nil ?_
    refine thenS_n ?_
    refine wpS_ret ?_
    refine fin1 (M := []) (v := .int .i64 ((((((stg n).toNat * ((stg n).toNat + 1)) / 2) : Nat) : Int))) (.inr rfl) (.nil) Try.results56 rfl ?_
    exact fun w' hs => ⟨congrArg (fun z : Int => Ending.returned (.int .i64 z)) (show _ = ((rnd n : Nat) : Int) by unfold rnd; rw [← show stgN n = (stg n).toNat by omega] at *; try first | rfl | omega), hs⟩

theorem rof_c (n r : Int) (n1 : -9223372036854775808 ≤ n) (n2 : n < 9223372036854775808) (r1 : -9223372036854775808 ≤ r) (r2 : r < 9223372036854775808) (w : World) : Pure Try.prog 154 #[.int .i64 n, .int .i64 r] w (.tuple #[.int .i64 ((((stp n r).1 : Nat) : Int)), .int .i64 ((((stp n r).2 : Nat) : Int))]) := by
  refine calls_S (n := 27) (σ0 := (upd (upd fr0 0 (.int .i64 n)) 1 (.int .i64 r))) (D := []) (A := []) Try.func154 rfl Try.ntmps154 rfl (a2_fr _ _) (SH.start w) ?_
  have hK := stgN_le n
  have hrt : rnd n = tri (stgN n) := rfl
  refine wpS_seq ?_
  refine wpS_region ?_
  refine s_y (v := .int .i64 0) (y_assign rfl) rfl ?_
  refine s_y (v := .int .i64 0) (y_assign rfl) rfl ?_
  refine wpL_nil ?_
  refine thenS_n ?_
  refine wpS_seq ?_
  refine wpS_seq ?_
  refine wpS_region ?_
  refine s_y (v := .int .i64 r) (y_move rfl) rfl ?_
  refine s_y (v := .bool (decide ((r : Int) < 0))) (y_lss (a := r) (b := 0) rfl rfl rfl) rfl ?_
  refine s_y (v := .bool (decide ((r : Int) < 0))) (y_move rfl) rfl ?_
  rcases Bool.eq_false_or_eq_true (decide ((r : Int) < 0)) with b1 | b1
  · -- decide ((r : Int) < 0) True
    have p1 := of_decide_eq_true b1
    refine s_no rfl rfl rfl rfl (b' := decide ((r : Int) < 0)) rfl b1 ?_
    refine s_no rfl rfl rfl rfl (b' := decide ((r : Int) < 0)) rfl b1 ?_
    refine s_no rfl rfl rfl rfl (b' := decide ((r : Int) < 0)) rfl b1 ?_
    refine s_no rfl rfl rfl rfl (b' := decide ((r : Int) < 0)) rfl b1 ?_
    refine s_y (v := .bool true) (y_pickT (b := decide ((r : Int) < 0)) (v := .bool true) rfl b1 rfl) rfl ?_
    refine wpL_nil ?_
    refine thenS_n ?_
    refine wpS_cond_t rfl ?_
    refine wpS_seq ?_
    refine wpS_region ?_
    refine s_y (v := .int .i64 0) (y_assign rfl) rfl ?_
    refine s_y (v := .int .i64 0) (y_assign rfl) rfl ?_
    refine wpL_nil ?_
    refine thenS_n ?_
    refine wpS_ret ?_
    refine thenS_r ?_
    refine fin2 (M := []) (.inr rfl) (.nil) Try.results154 (rvT (v := .int .i64 0) rfl) (rvT (v := .int .i64 0) rfl) ?_
    exact fun w' hs => ⟨by rw [stp_zero (by omega)]; rfl, hs⟩
  · -- decide ((r : Int) < 0) False
    have p1 := of_decide_eq_false b1
    refine s_gy (y_move rfl) rfl rfl rfl rfl (b' := decide ((r : Int) < 0)) rfl b1 ?_
    refine s_gy (y_move rfl) rfl rfl rfl rfl (b' := decide ((r : Int) < 0)) rfl b1 ?_
    refine s_gy (y_call (args := #[.int .i64 n]) (v := .int .i64 ((((rnd n) : Nat) : Int))) Try.call56 (ev1 rfl) (fun w hs => rrnd_c n (by omega) (by omega) w)) rfl rfl rfl rfl (b' := decide ((r : Int) < 0)) rfl b1 ?_
    refine s_gy (y_geq (a := r) (b := (((rnd n) : Nat) : Int)) rfl rfl rfl) rfl rfl rfl rfl (b' := decide ((r : Int) < 0)) rfl b1 ?_
    refine s_y (v := .bool (decide (((((rnd n) : Nat) : Int) : Int) ≤ r))) (y_pickF (b := decide ((r : Int) < 0)) (v := .bool (decide (((((rnd n) : Nat) : Int) : Int) ≤ r))) rfl b1 rfl) rfl ?_
    refine wpL_nil ?_
    refine thenS_n ?_
    refine wpS_cond (t := decide (((((rnd n) : Nat) : Int) : Int) ≤ r)) rfl (fun b2 => ?_) (fun b2 => ?_)
    · -- decide (((((rnd n) : Nat) : Int) : Int) ≤ r) true
      have p2 := of_decide_eq_true b2
      refine wpS_seq ?_
      refine wpS_region ?_
      refine s_y (v := .int .i64 0) (y_assign rfl) rfl ?_
      refine s_y (v := .int .i64 0) (y_assign rfl) rfl ?_
      refine wpL_nil ?_
      refine thenS_n ?_
      refine wpS_ret ?_
      refine thenS_r ?_
      refine fin2 (M := []) (.inr rfl) (.nil) Try.results154 (rvT (v := .int .i64 0) rfl) (rvT (v := .int .i64 0) rfl) ?_
      exact fun w' hs => ⟨by rw [stp_zero (by omega)]; rfl, hs⟩
    · -- decide (((((rnd n) : Nat) : Int) : Int) ≤ r) false
      have p2 := of_decide_eq_false b2
      refine wpS_skip ?_
      refine thenS_n ?_
      refine wpS_seq ?_
      refine wpS_region ?_
      refine s_y (v := .int .i64 1) (y_assign rfl) rfl ?_
      refine wpL_nil ?_
      refine thenS_n ?_
      refine wpS_seq ?_
      refine wpS_block ?_
      refine wpS_loop (fun m ds σ L => ∃ s : Nat, ∃ a : Nat, m = a ∧ (1 ≤ s) ∧ (s ≤ stgN n) ∧ (a + tri (s - 1) = r.toNat) ∧ (stpA (stgN n) s a = stpA (stgN n) 1 r.toNat) ∧ ds = [] ∧ σ 1 = .int .i64 (((a : Nat) : Int)) ∧ σ 6 = .int .i64 (((s : Nat) : Int)) ∧ Ent L []) (m0 := r.toNat) ⟨1, r.toNat, rfl, by omega, (by rcases Nat.eq_zero_or_pos (stgN n) with h0 | h0; rw [h0] at hrt; have : tri 0 = 0 := rfl; omega; omega), (by show r.toNat + 0 = _; omega), rfl, rfl, (congrArg (Value.int .i64) (by omega)), rfl, .nil⟩ ?_
      rintro m ds σ L ⟨s, a, hm_3, hf0_3, hf1_3, hf2_3, hf3_3, rfl, h1_3, h6_3, hE_3⟩
      refine wpS_ent hE_3 ?_; clear hE_3
      refine wpS_seq ?_
      refine wpS_seq ?_
      refine wpS_region ?_
      refine s_y (v := .int .i64 (((a : Nat) : Int))) (y_move h1_3) rfl ?_
      refine s_y (v := .int .i64 (((s : Nat) : Int))) (y_move h6_3) rfl ?_
      refine s_y (v := .bool (decide (s ≤ a))) (y_geq (a := ((a : Nat) : Int)) (b := ((s : Nat) : Int)) (c := decide (s ≤ a)) rfl rfl (decide_eq_decide.2 (by omega))) rfl ?_
      refine wpL_nil ?_
      refine thenS_n ?_
      refine wpS_cond (t := decide (s ≤ a)) rfl (fun b4 => ?_) (fun b4 => ?_)
      · -- decide (s ≤ a) true
        have p4 := of_decide_eq_true b4
        refine wpS_skip ?_
        refine thenS_n ?_
        refine wpS_block ?_
        refine wpS_seq ?_
        refine wpS_region ?_
        refine s_y (v := .int .i64 (((a : Nat) : Int))) (y_move h1_3) rfl ?_
        refine s_y (v := .int .i64 (((s : Nat) : Int))) (y_move h6_3) rfl ?_
        refine s_y (v := .int .i64 ((((a - s) : Nat) : Int))) (y_sub (a := ((a : Nat) : Int)) (b := ((s : Nat) : Int)) (c := (((a - s) : Nat) : Int)) rfl rfl (wI (by omega) (by omega) (by omega))) rfl ?_
        refine s_y (v := .int .i64 ((((a - s) : Nat) : Int))) (y_assign rfl) rfl ?_
        refine wpL_nil ?_
        refine thenS_n ?_
        refine wpS_region ?_
        refine s_y (v := .int .i64 (((s : Nat) : Int))) (y_move h6_3) rfl ?_
        refine s_y (v := .int .i64 ((((s + 1) : Nat) : Int))) (y_add (a := ((s : Nat) : Int)) (b := 1) (c := (((s + 1) : Nat) : Int)) rfl rfl (wI (by omega) (by omega) (by omega))) rfl ?_
        refine s_y (v := .int .i64 ((((s + 1) : Nat) : Int))) (y_assign rfl) rfl ?_
        refine wpL_nil ?_
        refine blockS_n ?_
        refine thenS_n ?_
        exact ⟨_, by omega, ⟨(s + 1), (a - s), rfl, by omega, (tri_room (by omega) (by assumption) (by omega) (by omega)), (tri_dec (by omega) (by assumption) (by omega)), (by rw [← stpA_next (by omega) (by omega)]; assumption), rfl, (congrArg (Value.int .i64) (by omega)), rfl, .nil⟩⟩
      · -- decide (s ≤ a) false
        have p4 := of_decide_eq_false b4
        refine wpS_exit ?_
        refine thenS_x ?_
        refine thenS_x ?_
        refine blockS_h ?_
        refine thenS_n ?_
        refine wpS_seq ?_
        refine wpS_region ?_
        refine s_y (v := .int .i64 (((s : Nat) : Int))) (y_move h6_3) rfl ?_
        refine s_y (v := .int .i64 (((s : Nat) : Int))) (y_move h6_3) rfl ?_
        refine s_y (v := .int .i64 (((a : Nat) : Int))) (y_move h1_3) rfl ?_
        refine s_y (v := .int .i64 ((((s - a) : Nat) : Int))) (y_sub (a := ((s : Nat) : Int)) (b := ((a : Nat) : Int)) (c := (((s - a) : Nat) : Int)) rfl rfl (wI (by omega) (by omega) (by omega))) rfl ?_
        refine s_y (v := .int .i64 (((s : Nat) : Int))) (y_assign rfl) rfl ?_
        refine s_y (v := .int .i64 ((((s - a) : Nat) : Int))) (y_assign rfl) rfl ?_
        refine wpL_nil ?_
        refine thenS_n ?_
        refine wpS_ret ?_
        refine fin2 (M := []) (.inr rfl) (.nil) Try.results154 (rvT (v := .int .i64 (((s : Nat) : Int))) rfl) (rvT (v := .int .i64 ((((s - a) : Nat) : Int))) rfl) ?_
        exact fun w' hs => ⟨by rw [show stp n r = (s, s - a) by rw [stp_at (by omega), ← (by assumption : stpA (stgN n) s a = stpA (stgN n) 1 r.toNat), stpA_hit (by omega) (by omega)]], hs⟩

theorem rround_c (n r : Int) (n1 : -9223372036854775808 ≤ n) (n2 : n < 9223372036854775808) (r1 : -9223372036854775808 ≤ r) (r2 : r < 9223372036854775808) (w : World) : Makes Try.prog 55 #[.int .i64 n, .int .i64 r] w [] (fun x : Option Addr × Nat => .tuple #[slV (frsZ n r) x, .int .i64 ((far n r : Nat) : Int)]) (fun x => [slR intV 1 3 (frsZ n r) x]) (fun _ => True) := by
  refine calls_S (n := 39) (σ0 := (upd (upd fr0 0 (.int .i64 n)) 1 (.int .i64 r))) (D := []) (A := []) Try.func55 rfl Try.ntmps55 rfl (a2_fr _ _) (SH.start w) ?_
  have hb := stp_bd n r
  have hp := Nat.two_pow_pos ((stp n r).2 - 1)
  have hn6 : 0 < (stp n r).1 → n ≤ 65536 := fun h => far_n (by rw [far_yes h]; exact hp)
  refine wpS_seq ?_
  refine wpS_region ?_
  refine s_y (v := .slice none 0 0) (y_assign rfl) rfl ?_
  refine s_y (v := .int .i64 0) (y_assign rfl) rfl ?_
  refine wpL_nil ?_
  refine thenS_n ?_
  refine wpS_seq ?_
  refine wpS_region ?_
  refine s_y (v := .int .i64 n) (y_move rfl) rfl ?_
  refine s_y (v := .int .i64 r) (y_move rfl) rfl ?_
  refine s_y (v := .tuple #[.int .i64 ((((stp n r).1 : Nat) : Int)), .int .i64 ((((stp n r).2 : Nat) : Int))]) (y_call (args := #[.int .i64 n, .int .i64 r]) (v := .tuple #[.int .i64 ((((stp n r).1 : Nat) : Int)), .int .i64 ((((stp n r).2 : Nat) : Int))]) Try.call154 (ev2 rfl rfl) (fun w hs => rof_c n r (by omega) (by omega) (by omega) (by omega) w)) rfl ?_
  refine s_y (v := .tuple #[.int .i64 ((((stp n r).1 : Nat) : Int)), .int .i64 ((((stp n r).2 : Nat) : Int))]) (y_move rfl) rfl ?_
  refine s_y (v := .int .i64 ((((stp n r).1 : Nat) : Int))) (y_extract (v := .int .i64 ((((stp n r).1 : Nat) : Int))) rfl rfl) rfl ?_
  refine s_y (v := .int .i64 ((((stp n r).2 : Nat) : Int))) (y_extract (v := .int .i64 ((((stp n r).2 : Nat) : Int))) rfl rfl) rfl ?_
  refine s_y (v := .int .i64 ((((stp n r).1 : Nat) : Int))) (y_assign rfl) rfl ?_
  refine s_y (v := .int .i64 ((((stp n r).2 : Nat) : Int))) (y_assign rfl) rfl ?_
  refine wpL_nil ?_
  refine thenS_n ?_
  refine wpS_seq ?_
  refine wpS_seq ?_
  refine wpS_region ?_
  refine s_y (v := .int .i64 ((((stp n r).1 : Nat) : Int))) (y_move rfl) rfl ?_
  refine s_y (v := .bool (decide (((stp n r).1 : Nat) = 0))) (y_eql (a := (((stp n r).1 : Nat) : Int)) (b := 0) (c := decide (((stp n r).1 : Nat) = 0)) rfl rfl (decide_eq_decide.2 (by omega))) rfl ?_
  refine wpL_nil ?_
  refine thenS_n ?_
  refine wpS_cond (t := decide (((stp n r).1 : Nat) = 0)) rfl (fun b1 => ?_) (fun b1 => ?_)
  · -- decide (((stp n r).1 : Nat) = 0) true
    have p1 := of_decide_eq_true b1
    refine wpS_seq ?_
    refine wpS_region ?_
    refine s_y (v := .slice none 0 0) (y_assign rfl) rfl ?_
    refine s_y (v := .int .i64 0) (y_assign rfl) rfl ?_
    refine wpL_nil ?_
    refine thenS_n ?_
    refine wpS_ret ?_
    refine thenS_r ?_
    refine finNil2 (sz := 1) (ty := 3) (.inr rfl) .nil Try.results55 (rvT (v := .slice none 0 0) rfl) (rvT (v := .int .i64 0) rfl) ?_
    exact fun w' hs => ⟨(none, 0), by rw [frsZ_none (by omega), far_none (by omega)]; rfl, by rw [frsZ_none (by omega)]; exact hs, trivial⟩
  · -- decide (((stp n r).1 : Nat) = 0) false
    have p1 := of_decide_eq_false b1
    refine wpS_skip ?_
    refine thenS_n ?_
    refine wpS_seq ?_
    refine wpS_region ?_
    refine s_y (v := .int .i64 ((((stp n r).2 : Nat) : Int))) (y_move rfl) rfl ?_
    refine s_y (v := .int .i64 (((((stp n r).2 - 1) : Nat) : Int))) (y_sub (a := (((stp n r).2 : Nat) : Int)) (b := 1) (c := ((((stp n r).2 - 1) : Nat) : Int)) rfl rfl (wI (by omega) (by omega) (by omega))) rfl ?_
    refine s_y (v := .int .u64 (((((stp n r).2 - 1) : Nat) : Int))) (y_convI (a := ((((stp n r).2 - 1) : Nat) : Int)) (c := ((((stp n r).2 - 1) : Nat) : Int)) rfl Try.underlying3 Try.underlying46 (wU rfl (by omega) (by omega))) rfl ?_
    refine s_y (v := .int .i64 ((((2 ^ ((stp n r).2 - 1)) : Nat) : Int))) (y_shl (a := 1) (b := ((((stp n r).2 - 1) : Nat) : Int)) (c := (((2 ^ ((stp n r).2 - 1)) : Nat) : Int)) rfl rfl (by omega) (z1_shl ((((stp n r).2 - 1) : Nat) : Int) (by omega) (by omega))) rfl ?_
    refine s_y (v := .int .i64 ((((2 ^ ((stp n r).2 - 1)) : Nat) : Int))) (y_assign rfl) rfl ?_
    refine wpL_nil ?_
    refine thenS_n ?_
    refine wpS_seq ?_
    refine wpS_region ?_
    refine s_y (v := .slice none 0 0) (y_assign rfl) rfl ?_
    refine wpL_nil ?_
    refine thenS_n ?_
    refine wpS_seq ?_
    refine wpS_seq ?_
    refine wpS_region ?_
    refine s_y (v := .int .i64 0) (y_assign rfl) rfl ?_
    refine wpL_nil ?_
    refine thenS_n ?_
    refine wpS_block ?_
    refine wpS_nil0 1 3 ?_
    refine wpS_loop (fun m ds σ L => ∃ a : Nat, ∃ a1 : Option Addr, ∃ c1 : Nat, m = n.toNat - a ∧ (a ≤ n.toNat) ∧ ds = [] ∧ σ 0 = .int .i64 n ∧ σ 8 = .int .i64 ((((2 ^ ((stp n r).2 - 1)) : Nat) : Int)) ∧ σ 9 = .slice a1 ((frsTo n r a).length) c1 ∧ σ 10 = .int .i64 (((a : Nat) : Int)) ∧ Ent L [osl a1 c1 ((frsTo n r a).length) 1 3 ((frsTo n r a).flatMap intV)]) (m0 := n.toNat - 0) ⟨0, none, 0, rfl, by omega, rfl, rfl, rfl, rfl, rfl, .p .h .nil⟩ ?_
    rintro m ds σ L ⟨a, a1, c1, hm_2, hf0_2, rfl, h0_2, h8_2, h9_2, h10_2, hE_2⟩
    refine wpS_ent hE_2 ?_; clear hE_2
    refine wpS_seq ?_
    refine wpS_seq ?_
    refine wpS_region ?_
    refine s_y (v := .int .i64 (((a : Nat) : Int))) (y_move h10_2) rfl ?_
    refine s_y (v := .int .i64 n) (y_move h0_2) rfl ?_
    refine s_y (v := .bool (decide ((((a : Nat) : Int) : Int) < n))) (y_lss (a := ((a : Nat) : Int)) (b := n) rfl rfl rfl) rfl ?_
    refine wpL_nil ?_
    refine thenS_n ?_
    refine wpS_cond (t := decide ((((a : Nat) : Int) : Int) < n)) rfl (fun b3 => ?_) (fun b3 => ?_)
    · -- decide ((((a : Nat) : Int) : Int) < n) true
      have p3 := of_decide_eq_true b3
      refine wpS_skip ?_
      refine thenS_n ?_
      refine wpS_seq ?_
      refine wpS_block ?_
      refine wpS_seq ?_
      refine wpS_region ?_
      refine s_y (v := .int .i64 (((a : Nat) : Int))) (y_move h10_2) rfl ?_
      refine s_y (v := .int .i64 ((((2 ^ ((stp n r).2 - 1)) : Nat) : Int))) (y_move h8_2) rfl ?_
      refine s_y (v := .int .i64 ((((a / (2 ^ ((stp n r).2 - 1))) : Nat) : Int))) (y_quo (a := ((a : Nat) : Int)) (b := (((2 ^ ((stp n r).2 - 1)) : Nat) : Int)) (c := (((a / (2 ^ ((stp n r).2 - 1))) : Nat) : Int)) rfl rfl (by omega) (n_quo _ (2 ^ ((stp n r).2 - 1)) (by omega) (by omega))) rfl ?_
      refine s_y (v := .int .i64 (((((a / (2 ^ ((stp n r).2 - 1))) % 2) : Nat) : Int))) (y_rem (a := (((a / (2 ^ ((stp n r).2 - 1))) : Nat) : Int)) (b := 2) (c := ((((a / (2 ^ ((stp n r).2 - 1))) % 2) : Nat) : Int)) rfl rfl (by omega) (n_rem _ 2 (by omega))) rfl ?_
      refine s_y (v := .bool (decide ((((a / (2 ^ ((stp n r).2 - 1))) % 2) : Nat) = 0))) (y_eql (a := ((((a / (2 ^ ((stp n r).2 - 1))) % 2) : Nat) : Int)) (b := 0) (c := decide ((((a / (2 ^ ((stp n r).2 - 1))) % 2) : Nat) = 0)) rfl rfl (decide_eq_decide.2 (by omega))) rfl ?_
      refine wpL_nil ?_
      refine thenS_n ?_
      refine wpS_cond (t := decide ((((a / (2 ^ ((stp n r).2 - 1))) % 2) : Nat) = 0)) rfl (fun b4 => ?_) (fun b4 => ?_)
      · -- decide ((((a / (2 ^ ((stp n r).2 - 1))) % 2) : Nat) = 0) true
        have p4 := of_decide_eq_true b4
        refine wpS_region ?_
        refine s_y (v := .slice a1 ((frsTo n r a).length) c1) (y_move h9_2) rfl ?_
        refine s_y (v := .int .i64 (((a : Nat) : Int))) (y_move h10_2) rfl ?_
        refine s_e rfl ?_
        refine e_bsliceL (e := 3) (m := [(0, .int .i64 (((a : Nat) : Int)))]) (l := [.int .i64 (((a : Nat) : Int))]) (evc rfl evn) (fun w => by kernel_rfl) ?_
        intro b_5
        refine s_e rfl ?_
        refine e_appendL (enc := intV) (xs := ((frsTo n r a) : List Int)) (ns := ([((a : Nat) : Int)] : List Int)) (zs := (frsTo n r (a + 1))) (bytes := 8) intV_len intV_one Try.underlying39 (i := Try.t3) rfl rfl rfl rfl rfl (by decide) rfl rfl (by first | rfl | omega) (by first | rfl | omega) (.t .h) (fun w hs => celR .h w hs) (frsTo_next (by assumption) trivial) (by have := frsTo_le n r (a + 1); omega) (by have := frsTo_le n r (a + 1); omega) ?_
        intro a_6 c_7
        refine s_y (v := .slice a_6 ((frsTo n r (a + 1)).length) c_7) (y_assign rfl) rfl ?_
        refine wpL_nil ?_
        refine blockS_n ?_
        refine thenS_n ?_
        refine wpS_region ?_
        refine s_y (v := .int .i64 (((a : Nat) : Int))) (y_move h10_2) rfl ?_
        refine s_y (v := .int .i64 ((((a + 1) : Nat) : Int))) (y_add (a := ((a : Nat) : Int)) (b := 1) (c := (((a + 1) : Nat) : Int)) rfl rfl (wI (by omega) (by omega) (by omega))) rfl ?_
        refine s_y (v := .int .i64 ((((a + 1) : Nat) : Int))) (y_assign rfl) rfl ?_
        refine wpL_nil ?_
        refine thenS_n ?_
        try rw [← frsTo_skip (n := n) (r := r) (a := a) (by assumption)] at *
        exact ⟨_, by omega, ⟨(a + 1), a_6, c_7, rfl, by omega, rfl, h0_2, h8_2, rfl, rfl, .p .h .nil⟩⟩
      · -- decide ((((a / (2 ^ ((stp n r).2 - 1))) % 2) : Nat) = 0) false
        have p4 := of_decide_eq_false b4
        refine wpS_skip ?_
        refine blockS_n ?_
        refine thenS_n ?_
        refine wpS_region ?_
        refine s_y (v := .int .i64 (((a : Nat) : Int))) (y_move h10_2) rfl ?_
        refine s_y (v := .int .i64 ((((a + 1) : Nat) : Int))) (y_add (a := ((a : Nat) : Int)) (b := 1) (c := (((a + 1) : Nat) : Int)) rfl rfl (wI (by omega) (by omega) (by omega))) rfl ?_
        refine s_y (v := .int .i64 ((((a + 1) : Nat) : Int))) (y_assign rfl) rfl ?_
        refine wpL_nil ?_
        refine thenS_n ?_
        try rw [← frsTo_skip (n := n) (r := r) (a := a) (by assumption)] at *
        exact ⟨_, by omega, ⟨(a + 1), a1, c1, rfl, by omega, rfl, h0_2, h8_2, h9_2, rfl, .p .h .nil⟩⟩
    · -- decide ((((a : Nat) : Int) : Int) < n) false
      have p3 := of_decide_eq_false b3
      refine wpS_exit ?_
      refine thenS_x ?_
      refine thenS_x ?_
      refine blockS_h ?_
      refine thenS_n ?_
      refine wpS_seq ?_
      refine wpS_region ?_
      refine s_y (v := .slice a1 ((frsTo n r a).length) c1) (y_move h9_2) rfl ?_
      refine s_y (v := .int .i64 ((((2 ^ ((stp n r).2 - 1)) : Nat) : Int))) (y_move h8_2) rfl ?_
      refine s_y (v := .slice a1 ((frsTo n r a).length) c1) (y_assign rfl) rfl ?_
      refine s_y (v := .int .i64 ((((2 ^ ((stp n r).2 - 1)) : Nat) : Int))) (y_assign rfl) rfl ?_
      refine wpL_nil ?_
      refine thenS_n ?_
      refine wpS_ret ?_
      refine fin2 (M := [osl a1 c1 ((frsTo n r a).length) 1 3 ((frsTo n r a).flatMap intV)]) (.inr rfl) (.p .h .nil) Try.results55 (rvT (v := .slice a1 ((frsTo n r a).length) c1) rfl) (rvT (v := .int .i64 ((((2 ^ ((stp n r).2 - 1)) : Nat) : Int))) rfl) ?_
      exact fun w' hs => ⟨(a1, c1), by rw [← frsTo_all (n := n) (r := r) (a := a) (by omega) (by omega), far_yes (by omega)], by rw [← frsTo_all (n := n) (r := r) (a := a) (by omega) (by omega)]; exact hs, trivial⟩

theorem rup_c (n r a : Int) (n1 : -9223372036854775808 ≤ n) (n2 : n < 9223372036854775808) (r1 : -9223372036854775808 ≤ r) (r2 : r < 9223372036854775808) (a1 : -9223372036854775808 ≤ a) (a2 : a < 9223372036854775808) (w : World) : Pure Try.prog 60 #[.int .i64 n, .int .i64 r, .int .i64 a] w (.bool ((up n r a))) := by
  refine calls_S (n := 43) (σ0 := (upd (upd (upd fr0 0 (.int .i64 n)) 1 (.int .i64 r)) 2 (.int .i64 a))) (D := []) (A := []) Try.func60 rfl Try.ntmps60 rfl (a3_fr _ _ _) (SH.start w) ?_
  have hb := stp_bd n r
  have hp := Nat.two_pow_pos ((stp n r).2 - 1)
  have hq := Nat.two_pow_pos (stp n r).1
  refine wpS_seq ?_
  refine wpS_region ?_
  refine s_y (v := .bool false) (y_assign rfl) rfl ?_
  refine wpL_nil ?_
  refine thenS_n ?_
  refine wpS_seq ?_
  refine wpS_region ?_
  refine s_y (v := .int .i64 n) (y_move rfl) rfl ?_
  refine s_y (v := .int .i64 r) (y_move rfl) rfl ?_
  refine s_y (v := .tuple #[.int .i64 ((((stp n r).1 : Nat) : Int)), .int .i64 ((((stp n r).2 : Nat) : Int))]) (y_call (args := #[.int .i64 n, .int .i64 r]) (v := .tuple #[.int .i64 ((((stp n r).1 : Nat) : Int)), .int .i64 ((((stp n r).2 : Nat) : Int))]) Try.call154 (ev2 rfl rfl) (fun w hs => rof_c n r (by omega) (by omega) (by omega) (by omega) w)) rfl ?_
  refine s_y (v := .tuple #[.int .i64 ((((stp n r).1 : Nat) : Int)), .int .i64 ((((stp n r).2 : Nat) : Int))]) (y_move rfl) rfl ?_
  refine s_y (v := .int .i64 ((((stp n r).1 : Nat) : Int))) (y_extract (v := .int .i64 ((((stp n r).1 : Nat) : Int))) rfl rfl) rfl ?_
  refine s_y (v := .int .i64 ((((stp n r).2 : Nat) : Int))) (y_extract (v := .int .i64 ((((stp n r).2 : Nat) : Int))) rfl rfl) rfl ?_
  refine s_y (v := .int .i64 ((((stp n r).1 : Nat) : Int))) (y_assign rfl) rfl ?_
  refine s_y (v := .int .i64 ((((stp n r).2 : Nat) : Int))) (y_assign rfl) rfl ?_
  refine wpL_nil ?_
  refine thenS_n ?_
  refine wpS_seq ?_
  refine wpS_seq ?_
  refine wpS_region ?_
  refine s_y (v := .int .i64 ((((stp n r).1 : Nat) : Int))) (y_move rfl) rfl ?_
  refine s_y (v := .bool (decide (((stp n r).1 : Nat) = 0))) (y_eql (a := (((stp n r).1 : Nat) : Int)) (b := 0) (c := decide (((stp n r).1 : Nat) = 0)) rfl rfl (decide_eq_decide.2 (by omega))) rfl ?_
  refine s_y (v := .bool (decide (((stp n r).1 : Nat) = 0))) (y_move rfl) rfl ?_
  rcases Bool.eq_false_or_eq_true (decide (((stp n r).1 : Nat) = 0)) with b1 | b1
  · -- decide (((stp n r).1 : Nat) = 0) True
    have p1 := of_decide_eq_true b1
    refine s_no rfl rfl rfl rfl (b' := decide (((stp n r).1 : Nat) = 0)) rfl b1 ?_
    refine s_no rfl rfl rfl rfl (b' := decide (((stp n r).1 : Nat) = 0)) rfl b1 ?_
    refine s_y (v := .bool true) (y_pickT (b := decide (((stp n r).1 : Nat) = 0)) (v := .bool true) rfl b1 rfl) rfl ?_
    refine s_y (v := .bool true) (y_move rfl) rfl ?_
    refine s_no rfl rfl rfl rfl rfl rfl ?_
    refine s_no rfl rfl rfl rfl rfl rfl ?_
    refine s_no rfl rfl rfl rfl rfl rfl ?_
    refine s_y (v := .bool true) (y_pickT (v := .bool true) rfl rfl rfl) rfl ?_
    refine s_y (v := .bool true) (y_move rfl) rfl ?_
    refine s_no rfl rfl rfl rfl rfl rfl ?_
    refine s_no rfl rfl rfl rfl rfl rfl ?_
    refine s_no rfl rfl rfl rfl rfl rfl ?_
    refine s_no rfl rfl rfl rfl rfl rfl ?_
    refine s_no rfl rfl rfl rfl rfl rfl ?_
    refine s_no rfl rfl rfl rfl rfl rfl ?_
    refine s_no rfl rfl rfl rfl rfl rfl ?_
    refine s_no rfl rfl rfl rfl rfl rfl ?_
    refine s_y (v := .bool true) (y_pickT (v := .bool true) rfl rfl rfl) rfl ?_
    refine wpL_nil ?_
    refine thenS_n ?_
    refine wpS_cond_t rfl ?_
    refine wpS_seq ?_
    refine wpS_region ?_
    refine s_y (v := .bool false) (y_assign rfl) rfl ?_
    refine wpL_nil ?_
    refine thenS_n ?_
    refine wpS_ret ?_
    refine thenS_r ?_
    refine fin1 (M := []) (v := .bool false) (.inr rfl) (.nil) Try.results60 rfl ?_
    exact fun w' hs => ⟨(congrArg (fun b => Ending.returned (Value.bool b)) (by first | exact up_f (by omega) | exact up_y (by omega) (by omega) (by omega) (by omega))), hs⟩
  · -- decide (((stp n r).1 : Nat) = 0) False
    have p1 := of_decide_eq_false b1
    refine s_gy (y_move rfl) rfl rfl rfl rfl (b' := decide (((stp n r).1 : Nat) = 0)) rfl b1 ?_
    refine s_gy (y_lss (a := a) (b := 0) rfl rfl rfl) rfl rfl rfl rfl (b' := decide (((stp n r).1 : Nat) = 0)) rfl b1 ?_
    refine s_y (v := .bool (decide ((a : Int) < 0))) (y_pickF (b := decide (((stp n r).1 : Nat) = 0)) (v := .bool (decide ((a : Int) < 0))) rfl b1 rfl) rfl ?_
    refine s_y (v := .bool (decide ((a : Int) < 0))) (y_move rfl) rfl ?_
    rcases Bool.eq_false_or_eq_true (decide ((a : Int) < 0)) with b2 | b2
    · -- decide ((a : Int) < 0) True
      have p2 := of_decide_eq_true b2
      refine s_no rfl rfl rfl rfl (b' := decide ((a : Int) < 0)) rfl b2 ?_
      refine s_no rfl rfl rfl rfl (b' := decide ((a : Int) < 0)) rfl b2 ?_
      refine s_no rfl rfl rfl rfl (b' := decide ((a : Int) < 0)) rfl b2 ?_
      refine s_y (v := .bool true) (y_pickT (b := decide ((a : Int) < 0)) (v := .bool true) rfl b2 rfl) rfl ?_
      refine s_y (v := .bool true) (y_move rfl) rfl ?_
      refine s_no rfl rfl rfl rfl rfl rfl ?_
      refine s_no rfl rfl rfl rfl rfl rfl ?_
      refine s_no rfl rfl rfl rfl rfl rfl ?_
      refine s_no rfl rfl rfl rfl rfl rfl ?_
      refine s_no rfl rfl rfl rfl rfl rfl ?_
      refine s_no rfl rfl rfl rfl rfl rfl ?_
      refine s_no rfl rfl rfl rfl rfl rfl ?_
      refine s_no rfl rfl rfl rfl rfl rfl ?_
      refine s_y (v := .bool true) (y_pickT (v := .bool true) rfl rfl rfl) rfl ?_
      refine wpL_nil ?_
      refine thenS_n ?_
      refine wpS_cond_t rfl ?_
      refine wpS_seq ?_
      refine wpS_region ?_
      refine s_y (v := .bool false) (y_assign rfl) rfl ?_
      refine wpL_nil ?_
      refine thenS_n ?_
      refine wpS_ret ?_
      refine thenS_r ?_
      refine fin1 (M := []) (v := .bool false) (.inr rfl) (.nil) Try.results60 rfl ?_
      exact fun w' hs => ⟨(congrArg (fun b => Ending.returned (Value.bool b)) (by first | exact up_f (by omega) | exact up_y (by omega) (by omega) (by omega) (by omega))), hs⟩
    · -- decide ((a : Int) < 0) False
      have p2 := of_decide_eq_false b2
      refine s_gy (y_move rfl) rfl rfl rfl rfl (b' := decide ((a : Int) < 0)) rfl b2 ?_
      refine s_gy (y_move rfl) rfl rfl rfl rfl (b' := decide ((a : Int) < 0)) rfl b2 ?_
      refine s_gy (y_geq (a := a) (b := n) rfl rfl rfl) rfl rfl rfl rfl (b' := decide ((a : Int) < 0)) rfl b2 ?_
      refine s_y (v := .bool (decide ((n : Int) ≤ a))) (y_pickF (b := decide ((a : Int) < 0)) (v := .bool (decide ((n : Int) ≤ a))) rfl b2 rfl) rfl ?_
      refine s_y (v := .bool (decide ((n : Int) ≤ a))) (y_move rfl) rfl ?_
      rcases Bool.eq_false_or_eq_true (decide ((n : Int) ≤ a)) with b3 | b3
      · -- decide ((n : Int) ≤ a) True
        have p3 := of_decide_eq_true b3
        refine s_no rfl rfl rfl rfl (b' := decide ((n : Int) ≤ a)) rfl b3 ?_
        refine s_no rfl rfl rfl rfl (b' := decide ((n : Int) ≤ a)) rfl b3 ?_
        refine s_no rfl rfl rfl rfl (b' := decide ((n : Int) ≤ a)) rfl b3 ?_
        refine s_no rfl rfl rfl rfl (b' := decide ((n : Int) ≤ a)) rfl b3 ?_
        refine s_no rfl rfl rfl rfl (b' := decide ((n : Int) ≤ a)) rfl b3 ?_
        refine s_no rfl rfl rfl rfl (b' := decide ((n : Int) ≤ a)) rfl b3 ?_
        refine s_no rfl rfl rfl rfl (b' := decide ((n : Int) ≤ a)) rfl b3 ?_
        refine s_no rfl rfl rfl rfl (b' := decide ((n : Int) ≤ a)) rfl b3 ?_
        refine s_y (v := .bool true) (y_pickT (b := decide ((n : Int) ≤ a)) (v := .bool true) rfl b3 rfl) rfl ?_
        refine wpL_nil ?_
        refine thenS_n ?_
        refine wpS_cond_t rfl ?_
        refine wpS_seq ?_
        refine wpS_region ?_
        refine s_y (v := .bool false) (y_assign rfl) rfl ?_
        refine wpL_nil ?_
        refine thenS_n ?_
        refine wpS_ret ?_
        refine thenS_r ?_
        refine fin1 (M := []) (v := .bool false) (.inr rfl) (.nil) Try.results60 rfl ?_
        exact fun w' hs => ⟨(congrArg (fun b => Ending.returned (Value.bool b)) (by first | exact up_f (by omega) | exact up_y (by omega) (by omega) (by omega) (by omega))), hs⟩
      · -- decide ((n : Int) ≤ a) False
        have p3 := of_decide_eq_false b3
        refine s_gy (y_move rfl) rfl rfl rfl rfl (b' := decide ((n : Int) ≤ a)) rfl b3 ?_
        refine s_gy (y_move rfl) rfl rfl rfl rfl (b' := decide ((n : Int) ≤ a)) rfl b3 ?_
        refine s_gy (y_sub (a := (((stp n r).2 : Nat) : Int)) (b := 1) (c := ((((stp n r).2 - 1) : Nat) : Int)) rfl rfl (wI (by omega) (by omega) (by omega))) rfl rfl rfl rfl (b' := decide ((n : Int) ≤ a)) rfl b3 ?_
        refine s_gy (y_convI (a := ((((stp n r).2 - 1) : Nat) : Int)) (c := ((((stp n r).2 - 1) : Nat) : Int)) rfl Try.underlying3 Try.underlying46 (wU rfl (by omega) (by omega))) rfl rfl rfl rfl (b' := decide ((n : Int) ≤ a)) rfl b3 ?_
        refine s_gy (y_shl (a := 1) (b := ((((stp n r).2 - 1) : Nat) : Int)) (c := (((2 ^ ((stp n r).2 - 1)) : Nat) : Int)) rfl rfl (by omega) (z1_shl ((((stp n r).2 - 1) : Nat) : Int) (by omega) (by omega))) rfl rfl rfl rfl (b' := decide ((n : Int) ≤ a)) rfl b3 ?_
        refine s_gy (y_quo (a := a) (b := (((2 ^ ((stp n r).2 - 1)) : Nat) : Int)) (c := ((((a).toNat / (2 ^ ((stp n r).2 - 1))) : Nat) : Int)) rfl rfl (by omega) (zq_quo (by omega) (by omega))) rfl rfl rfl rfl (b' := decide ((n : Int) ≤ a)) rfl b3 ?_
        refine s_gy (y_rem (a := ((((a).toNat / (2 ^ ((stp n r).2 - 1))) : Nat) : Int)) (b := 2) (c := (((((a).toNat / (2 ^ ((stp n r).2 - 1))) % 2) : Nat) : Int)) rfl rfl (by omega) (n_rem _ 2 (by omega))) rfl rfl rfl rfl (b' := decide ((n : Int) ≤ a)) rfl b3 ?_
        refine s_gy (y_neq (a := (((((a).toNat / (2 ^ ((stp n r).2 - 1))) % 2) : Nat) : Int)) (b := 0) (c := decide (((((a).toNat / (2 ^ ((stp n r).2 - 1))) % 2) : Nat) ≠ 0)) rfl rfl (decide_eq_decide.2 (by omega))) rfl rfl rfl rfl (b' := decide ((n : Int) ≤ a)) rfl b3 ?_
        refine s_y (v := .bool (decide (((((a).toNat / (2 ^ ((stp n r).2 - 1))) % 2) : Nat) ≠ 0))) (y_pickF (b := decide ((n : Int) ≤ a)) (v := .bool (decide (((((a).toNat / (2 ^ ((stp n r).2 - 1))) % 2) : Nat) ≠ 0))) rfl b3 rfl) rfl ?_
        refine wpL_nil ?_
        refine thenS_n ?_
        refine wpS_cond (t := decide (((((a).toNat / (2 ^ ((stp n r).2 - 1))) % 2) : Nat) ≠ 0)) rfl (fun b4 => ?_) (fun b4 => ?_)
        · -- decide (((((a).toNat / (2 ^ ((stp n r).2 - 1))) % 2) : Nat) ≠ 0) true
          have p4 := of_decide_eq_true b4
          refine wpS_seq ?_
          refine wpS_region ?_
          refine s_y (v := .bool false) (y_assign rfl) rfl ?_
          refine wpL_nil ?_
          refine thenS_n ?_
          refine wpS_ret ?_
          refine thenS_r ?_
          refine fin1 (M := []) (v := .bool false) (.inr rfl) (.nil) Try.results60 rfl ?_
          exact fun w' hs => ⟨(congrArg (fun b => Ending.returned (Value.bool b)) (by first | exact up_f (by omega) | exact up_y (by omega) (by omega) (by omega) (by omega))), hs⟩
        · -- decide (((((a).toNat / (2 ^ ((stp n r).2 - 1))) % 2) : Nat) ≠ 0) false
          have p4 := of_decide_eq_false b4
          refine wpS_skip ?_
          refine thenS_n ?_
          refine wpS_seq ?_
          refine wpS_region ?_
          refine s_y (v := .int .i64 a) (y_move rfl) rfl ?_
          refine s_y (v := .int .i64 ((((stp n r).1 : Nat) : Int))) (y_move rfl) rfl ?_
          refine s_y (v := .int .u64 ((((stp n r).1 : Nat) : Int))) (y_convI (a := (((stp n r).1 : Nat) : Int)) (c := (((stp n r).1 : Nat) : Int)) rfl Try.underlying3 Try.underlying46 (wU rfl (by omega) (by omega))) rfl ?_
          refine s_y (v := .int .i64 ((((2 ^ (stp n r).1) : Nat) : Int))) (y_shl (a := 1) (b := (((stp n r).1 : Nat) : Int)) (c := (((2 ^ (stp n r).1) : Nat) : Int)) rfl rfl (by omega) (z1_shl (((stp n r).1 : Nat) : Int) (by omega) (by omega))) rfl ?_
          refine s_y (v := .int .i64 (((((a).toNat / (2 ^ (stp n r).1)) : Nat) : Int))) (y_quo (a := a) (b := (((2 ^ (stp n r).1) : Nat) : Int)) (c := ((((a).toNat / (2 ^ (stp n r).1)) : Nat) : Int)) rfl rfl (by omega) (zq_quo (by omega) (by omega))) rfl ?_
          refine s_y (v := .int .i64 ((((((a).toNat / (2 ^ (stp n r).1)) % 2) : Nat) : Int))) (y_rem (a := ((((a).toNat / (2 ^ (stp n r).1)) : Nat) : Int)) (b := 2) (c := (((((a).toNat / (2 ^ (stp n r).1)) % 2) : Nat) : Int)) rfl rfl (by omega) (n_rem _ 2 (by omega))) rfl ?_
          refine s_y (v := .bool (decide (((((a).toNat / (2 ^ (stp n r).1)) % 2) : Nat) = 0))) (y_eql (a := (((((a).toNat / (2 ^ (stp n r).1)) % 2) : Nat) : Int)) (b := 0) (c := decide (((((a).toNat / (2 ^ (stp n r).1)) % 2) : Nat) = 0)) rfl rfl (decide_eq_decide.2 (by omega))) rfl ?_
          refine s_y (v := .bool (decide (((((a).toNat / (2 ^ (stp n r).1)) % 2) : Nat) = 0))) (y_assign rfl) rfl ?_
          refine wpL_nil ?_
          refine thenS_n ?_
          refine wpS_ret ?_
          refine fin1 (M := []) (v := .bool (decide (((((a).toNat / (2 ^ (stp n r).1)) % 2) : Nat) = 0))) (.inr rfl) (.nil) Try.results60 rfl ?_
          exact fun w' hs => ⟨(congrArg (fun b => Ending.returned (Value.bool b)) (by first | exact up_f (by omega) | exact up_y (by omega) (by omega) (by omega) (by omega))), hs⟩

end Go.Proofs.Ytldkjjnjdjfipaa
