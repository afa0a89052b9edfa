/- Bit lengths and the network of the bitonic sort, in numbers, walked. -/
import Derived.Test.YtldkjjnjdjfipaaNumZ
import Derived.Test.YtldkjjnjdjfipaaWRec
namespace Go.Proofs.Ytldkjjnjdjfipaa
open Go Go.RowKit
set_option linter.unusedVariables false
set_option linter.unusedSimpArgs false
set_option maxRecDepth 10000

def stg (n : Int) : Int := if 1 ≤ n ∧ n ≤ 65536 ∧ n.toNat &&& (n - 1).toNat = 0 then (blen n.toNat : Int) - 1 else -1
theorem stg_bd (n : Int) : -1 ≤ stg n ∧ stg n ≤ 16 := by
  unfold stg
  split
  · rename_i h
    have := blen_le (n := n.toNat) (k := 17) (by omega)
    omega
  · omega
def stgN (n : Int) : Nat := (max (stg n) 0).toNat
theorem stgN_le (n : Int) : stgN n ≤ 16 := by have := stg_bd n; unfold stgN; omega
theorem stgN_max (n : Int) : (if stg n < 0 then 0 else stg n) = ((stgN n : Nat) : Int) := by unfold stgN; split <;> omega
theorem stgN_mul (n : Int) : IntKind.i64.wrap (((stgN n : Nat) : Int) * (((stgN n + 1 : Nat)) : Int)) = ((stgN n * (stgN n + 1) : Nat) : Int) := by
  have h := stgN_le n
  have h2 : stgN n * (stgN n + 1) ≤ 16 * 17 := Nat.mul_le_mul h (by omega)
  exact wI (by simp) (by omega) (by omega)
def rnd (n : Int) : Nat := stgN n * (stgN n + 1) / 2
def clampP (n : Int) : Nat := (max 1 (min n 65536)).toNat
theorem clampP_max (n : Int) : (if (1 : Int) < min n 65536 then min n 65536 else 1) = ((clampP n : Nat) : Int) := by unfold clampP; split <;> omega
theorem clampP_bd (n : Int) : 1 ≤ clampP n ∧ clampP n ≤ 65536 := by unfold clampP; omega
def pad (n : Int) : Nat := 2 ^ blen (clampP n - 1)

theorem len64_c (x : Nat) (hx : x < 4294967296) (w : World) : Pure Try.prog 219 #[.int .u64 (((x : Nat) : Int))] w (.int .i64 ((((blen x) : Nat) : Int))) := by
  refine calls_S (n := 25) (σ0 := (upd fr0 0 (.int .u64 (((x : Nat) : Int))))) (D := []) (A := []) Try.func219 rfl Try.ntmps219 rfl (a1_fr _) (SH.start w) ?_
  refine wpS_seq ?_
  refine wpS_region ?_
  refine s_y (v := .int .i64 0) (y_assign rfl) rfl ?_
  refine wpL_nil ?_
  refine thenS_n ?_
  refine wpS_seq ?_
  refine wpS_seq ?_
  refine wpS_region ?_
  refine s_y (v := .int .u64 (((x : Nat) : Int))) (y_move rfl) rfl ?_
  refine s_y (v := .bool (decide ((4294967296 : Nat) ≤ x))) (y_geq (a := ((x : Nat) : Int)) (b := 4294967296) (c := decide ((4294967296 : Nat) ≤ x)) rfl rfl (by simp only [decide_eq_decide]; omega)) rfl ?_
  refine wpL_nil ?_
  refine thenS_n ?_
  refine wpS_cond_F (t := decide ((4294967296 : Nat) ≤ x)) rfl (decide_eq_false (by omega)) ?_
  refine wpS_skip ?_
  refine thenS_n ?_
  refine wpS_seq ?_
  refine wpS_seq ?_
  refine wpS_region ?_
  refine s_y (v := .int .u64 (((x : Nat) : Int))) (y_move rfl) rfl ?_
  refine s_y (v := .bool (decide ((65536 : Nat) ≤ x))) (y_geq (a := ((x : Nat) : Int)) (b := 65536) (c := decide ((65536 : Nat) ≤ x)) rfl rfl (by simp only [decide_eq_decide]; omega)) rfl ?_
  refine wpL_nil ?_
  refine thenS_n ?_
  refine wpS_cond (t := decide ((65536 : Nat) ≤ x)) rfl (fun b1 => ?_) (fun b1 => ?_)
  · -- decide ((65536 : Nat) ≤ x) true
    have p1 := of_decide_eq_true b1
    refine wpS_seq ?_
    refine wpS_region ?_
    refine s_y (v := .int .u64 (((x : Nat) : Int))) (y_move rfl) rfl ?_
    refine s_y (v := .int .u64 ((((x / 65536) : Nat) : Int))) (y_shr (a := ((x : Nat) : Int)) (b := 16) (c := (((x / 65536) : Nat) : Int)) rfl rfl (by decide) (zn_shr ((x : Nat) : Int) 16 65536 (by decide) (by decide) (Int.natCast_nonneg _))) rfl ?_
    refine s_y (v := .int .u64 ((((x / 65536) : Nat) : Int))) (y_assign rfl) rfl ?_
    refine wpL_nil ?_
    refine thenS_n ?_
    refine wpS_region ?_
    refine s_y (v := .int .i64 0) (y_move rfl) rfl ?_
    refine s_y (v := .int .i64 16) (y_add (a := 0) (b := 16) (c := 16) rfl rfl (by decide)) rfl ?_
    refine s_y (v := .int .i64 16) (y_assign rfl) rfl ?_
    refine wpL_nil ?_
    refine thenS_n ?_
    refine wpS_seq ?_
    refine wpS_seq ?_
    refine wpS_region ?_
    refine s_y (v := .int .u64 ((((x / 65536) : Nat) : Int))) (y_move rfl) rfl ?_
    refine s_y (v := .bool (decide ((256 : Nat) ≤ (x / 65536)))) (y_geq (a := (((x / 65536) : Nat) : Int)) (b := 256) (c := decide ((256 : Nat) ≤ (x / 65536))) rfl rfl (by simp only [decide_eq_decide]; omega)) rfl ?_
    refine wpL_nil ?_
    refine thenS_n ?_
    refine wpS_cond (t := decide ((256 : Nat) ≤ (x / 65536))) rfl (fun b2 => ?_) (fun b2 => ?_)
    · -- decide ((256 : Nat) ≤ (x / 65536)) true
      have p2 := of_decide_eq_true b2
      refine wpS_seq ?_
      refine wpS_region ?_
      refine s_y (v := .int .u64 ((((x / 65536) : Nat) : Int))) (y_move rfl) rfl ?_
      refine s_y (v := .int .u64 (((((x / 65536) / 256) : Nat) : Int))) (y_shr (a := (((x / 65536) : Nat) : Int)) (b := 8) (c := ((((x / 65536) / 256) : Nat) : Int)) rfl rfl (by decide) (zn_shr (((x / 65536) : Nat) : Int) 8 256 (by decide) (by decide) (Int.natCast_nonneg _))) rfl ?_
      refine s_y (v := .int .u64 (((((x / 65536) / 256) : Nat) : Int))) (y_assign rfl) rfl ?_
      refine wpL_nil ?_
      refine thenS_n ?_
      refine wpS_region ?_
      refine s_y (v := .int .i64 16) (y_move rfl) rfl ?_
      refine s_y (v := .int .i64 24) (y_add (a := 16) (b := 8) (c := 24) rfl rfl (by decide)) rfl ?_
      refine s_y (v := .int .i64 24) (y_assign rfl) rfl ?_
      refine wpL_nil ?_
      refine thenS_n ?_
      refine wpS_seq ?_
      refine wpS_region ?_
      refine s_y (v := .int .i64 24) (y_move rfl) rfl ?_
      refine s_y (v := .int .u64 (((((x / 65536) / 256) : Nat) : Int))) (y_move rfl) rfl ?_
      refine s_y (v := .int .u8 (((((x / 65536) / 256) : Nat) : Int))) (y_convI (a := ((((x / 65536) / 256) : Nat) : Int)) (c := ((((x / 65536) / 256) : Nat) : Int)) rfl Try.underlying24 Try.underlying5 (wu8 (by omega))) rfl ?_
      have hb := blen_le (n := ((x / 65536) / 256)) (k := 8) (by omega)
      refine s_y (v := .int .u8 ((((blen ((x / 65536) / 256)) : Nat) : Int))) (y_lenTab (i := ((x / 65536) / 256)) rfl rfl Try.underlying9 (by kernel_rfl) (by omega)) rfl ?_
      refine s_y (v := .int .i64 ((((blen ((x / 65536) / 256)) : Nat) : Int))) (y_convI (a := (((blen ((x / 65536) / 256)) : Nat) : Int)) (c := (((blen ((x / 65536) / 256)) : Nat) : Int)) rfl Try.underlying5 Try.underlying3 (wI rfl (by omega) (by omega))) rfl ?_
      refine s_y (v := .int .i64 ((((24 + (blen ((x / 65536) / 256))) : Nat) : Int))) (y_add (a := 24) (b := (((blen ((x / 65536) / 256)) : Nat) : Int)) (c := (((24 + (blen ((x / 65536) / 256))) : Nat) : Int)) rfl rfl (wI (by omega) (by omega) (by omega))) rfl ?_
      refine s_y (v := .int .i64 ((((24 + (blen ((x / 65536) / 256))) : Nat) : Int))) (y_assign rfl) rfl ?_
      refine wpL_nil ?_
      refine thenS_n ?_
      refine wpS_ret ?_
      refine fin1 (v := .int .i64 ((((24 + (blen ((x / 65536) / 256))) : Nat) : Int))) (.inr rfl) .nil Try.results219 rfl ?_
      exact fun w' hs => ⟨congrArg (fun n : Nat => Ending.returned (.int .i64 (n : Int))) (show (24 + (blen ((x / 65536) / 256))) = blen x from by (first | simp | (have h1 := blen_shift x 8 (by omega); simp only [Nat.reducePow] at h1; omega) | (have h1 := blen_shift x 16 (by omega); simp only [Nat.reducePow] at h1; omega) | (have h1 := blen_shift x 16 (by omega); have h2 := blen_shift (x / 65536) 8 (by omega); simp only [Nat.reducePow] at h1 h2; omega))), hs⟩
    · -- decide ((256 : Nat) ≤ (x / 65536)) false
      have p2 := of_decide_eq_false b2
      refine wpS_skip ?_
      refine thenS_n ?_
      refine wpS_seq ?_
      refine wpS_region ?_
      refine s_y (v := .int .i64 16) (y_move rfl) rfl ?_
      refine s_y (v := .int .u64 ((((x / 65536) : Nat) : Int))) (y_move rfl) rfl ?_
      refine s_y (v := .int .u8 ((((x / 65536) : Nat) : Int))) (y_convI (a := (((x / 65536) : Nat) : Int)) (c := (((x / 65536) : Nat) : Int)) rfl Try.underlying24 Try.underlying5 (wu8 (by omega))) rfl ?_
      have hb := blen_le (n := (x / 65536)) (k := 8) (by omega)
      refine s_y (v := .int .u8 ((((blen (x / 65536)) : Nat) : Int))) (y_lenTab (i := (x / 65536)) rfl rfl Try.underlying9 (by kernel_rfl) (by omega)) rfl ?_
      refine s_y (v := .int .i64 ((((blen (x / 65536)) : Nat) : Int))) (y_convI (a := (((blen (x / 65536)) : Nat) : Int)) (c := (((blen (x / 65536)) : Nat) : Int)) rfl Try.underlying5 Try.underlying3 (wI rfl (by omega) (by omega))) rfl ?_
      refine s_y (v := .int .i64 ((((16 + (blen (x / 65536))) : Nat) : Int))) (y_add (a := 16) (b := (((blen (x / 65536)) : Nat) : Int)) (c := (((16 + (blen (x / 65536))) : Nat) : Int)) rfl rfl (wI (by omega) (by omega) (by omega))) rfl ?_
      refine s_y (v := .int .i64 ((((16 + (blen (x / 65536))) : Nat) : Int))) (y_assign rfl) rfl ?_
      refine wpL_nil ?_
      refine thenS_n ?_
      refine wpS_ret ?_
      refine fin1 (v := .int .i64 ((((16 + (blen (x / 65536))) : Nat) : Int))) (.inr rfl) .nil Try.results219 rfl ?_
      exact fun w' hs => ⟨congrArg (fun n : Nat => Ending.returned (.int .i64 (n : Int))) (show (16 + (blen (x / 65536))) = blen x from by (first | simp | (have h1 := blen_shift x 8 (by omega); simp only [Nat.reducePow] at h1; omega) | (have h1 := blen_shift x 16 (by omega); simp only [Nat.reducePow] at h1; omega) | (have h1 := blen_shift x 16 (by omega); have h2 := blen_shift (x / 65536) 8 (by omega); simp only [Nat.reducePow] at h1 h2; omega))), hs⟩
  · -- decide ((65536 : Nat) ≤ x) false
    have p1 := of_decide_eq_false b1
    refine wpS_skip ?_
    refine thenS_n ?_
    refine wpS_seq ?_
    refine wpS_seq ?_
    refine wpS_region ?_
    refine s_y (v := .int .u64 (((x : Nat) : Int))) (y_move rfl) rfl ?_
    refine s_y (v := .bool (decide ((256 : Nat) ≤ x))) (y_geq (a := ((x : Nat) : Int)) (b := 256) (c := decide ((256 : Nat) ≤ x)) rfl rfl (by simp only [decide_eq_decide]; omega)) rfl ?_
    refine wpL_nil ?_
    refine thenS_n ?_
    refine wpS_cond (t := decide ((256 : Nat) ≤ x)) rfl (fun b3 => ?_) (fun b3 => ?_)
    · -- decide ((256 : Nat) ≤ x) true
      have p3 := of_decide_eq_true b3
      refine wpS_seq ?_
      refine wpS_region ?_
      refine s_y (v := .int .u64 (((x : Nat) : Int))) (y_move rfl) rfl ?_
      refine s_y (v := .int .u64 ((((x / 256) : Nat) : Int))) (y_shr (a := ((x : Nat) : Int)) (b := 8) (c := (((x / 256) : Nat) : Int)) rfl rfl (by decide) (zn_shr ((x : Nat) : Int) 8 256 (by decide) (by decide) (Int.natCast_nonneg _))) rfl ?_
      refine s_y (v := .int .u64 ((((x / 256) : Nat) : Int))) (y_assign rfl) rfl ?_
      refine wpL_nil ?_
      refine thenS_n ?_
      refine wpS_region ?_
      refine s_y (v := .int .i64 0) (y_move rfl) rfl ?_
      refine s_y (v := .int .i64 8) (y_add (a := 0) (b := 8) (c := 8) rfl rfl (by decide)) rfl ?_
      refine s_y (v := .int .i64 8) (y_assign rfl) rfl ?_
      refine wpL_nil ?_
      refine thenS_n ?_
      refine wpS_seq ?_
      refine wpS_region ?_
      refine s_y (v := .int .i64 8) (y_move rfl) rfl ?_
      refine s_y (v := .int .u64 ((((x / 256) : Nat) : Int))) (y_move rfl) rfl ?_
      refine s_y (v := .int .u8 ((((x / 256) : Nat) : Int))) (y_convI (a := (((x / 256) : Nat) : Int)) (c := (((x / 256) : Nat) : Int)) rfl Try.underlying24 Try.underlying5 (wu8 (by omega))) rfl ?_
      have hb := blen_le (n := (x / 256)) (k := 8) (by omega)
      refine s_y (v := .int .u8 ((((blen (x / 256)) : Nat) : Int))) (y_lenTab (i := (x / 256)) rfl rfl Try.underlying9 (by kernel_rfl) (by omega)) rfl ?_
      refine s_y (v := .int .i64 ((((blen (x / 256)) : Nat) : Int))) (y_convI (a := (((blen (x / 256)) : Nat) : Int)) (c := (((blen (x / 256)) : Nat) : Int)) rfl Try.underlying5 Try.underlying3 (wI rfl (by omega) (by omega))) rfl ?_
      refine s_y (v := .int .i64 ((((8 + (blen (x / 256))) : Nat) : Int))) (y_add (a := 8) (b := (((blen (x / 256)) : Nat) : Int)) (c := (((8 + (blen (x / 256))) : Nat) : Int)) rfl rfl (wI (by omega) (by omega) (by omega))) rfl ?_
      refine s_y (v := .int .i64 ((((8 + (blen (x / 256))) : Nat) : Int))) (y_assign rfl) rfl ?_
      refine wpL_nil ?_
      refine thenS_n ?_
      refine wpS_ret ?_
      refine fin1 (v := .int .i64 ((((8 + (blen (x / 256))) : Nat) : Int))) (.inr rfl) .nil Try.results219 rfl ?_
      exact fun w' hs => ⟨congrArg (fun n : Nat => Ending.returned (.int .i64 (n : Int))) (show (8 + (blen (x / 256))) = blen x from by (first | simp | (have h1 := blen_shift x 8 (by omega); simp only [Nat.reducePow] at h1; omega) | (have h1 := blen_shift x 16 (by omega); simp only [Nat.reducePow] at h1; omega) | (have h1 := blen_shift x 16 (by omega); have h2 := blen_shift (x / 65536) 8 (by omega); simp only [Nat.reducePow] at h1 h2; omega))), hs⟩
    · -- decide ((256 : Nat) ≤ x) false
      have p3 := of_decide_eq_false b3
      refine wpS_skip ?_
      refine thenS_n ?_
      refine wpS_seq ?_
      refine wpS_region ?_
      refine s_y (v := .int .i64 0) (y_move rfl) rfl ?_
      refine s_y (v := .int .u64 (((x : Nat) : Int))) (y_move rfl) rfl ?_
      refine s_y (v := .int .u8 (((x : Nat) : Int))) (y_convI (a := ((x : Nat) : Int)) (c := ((x : Nat) : Int)) rfl Try.underlying24 Try.underlying5 (wu8 (by omega))) rfl ?_
      have hb := blen_le (n := x) (k := 8) (by omega)
      refine s_y (v := .int .u8 ((((blen x) : Nat) : Int))) (y_lenTab (i := x) rfl rfl Try.underlying9 (by kernel_rfl) (by omega)) rfl ?_
      refine s_y (v := .int .i64 ((((blen x) : Nat) : Int))) (y_convI (a := (((blen x) : Nat) : Int)) (c := (((blen x) : Nat) : Int)) rfl Try.underlying5 Try.underlying3 (wI rfl (by omega) (by omega))) rfl ?_
      refine s_y (v := .int .i64 ((((0 + (blen x)) : Nat) : Int))) (y_add (a := 0) (b := (((blen x) : Nat) : Int)) (c := (((0 + (blen x)) : Nat) : Int)) rfl rfl (wI (by omega) (by omega) (by omega))) rfl ?_
      refine s_y (v := .int .i64 ((((0 + (blen x)) : Nat) : Int))) (y_assign rfl) rfl ?_
      refine wpL_nil ?_
      refine thenS_n ?_
      refine wpS_ret ?_
      refine fin1 (v := .int .i64 ((((0 + (blen x)) : Nat) : Int))) (.inr rfl) .nil Try.results219 rfl ?_
      exact fun w' hs => ⟨congrArg (fun n : Nat => Ending.returned (.int .i64 (n : Int))) (show (0 + (blen x)) = blen x from by (first | simp | (have h1 := blen_shift x 8 (by omega); simp only [Nat.reducePow] at h1; omega) | (have h1 := blen_shift x 16 (by omega); simp only [Nat.reducePow] at h1; omega) | (have h1 := blen_shift x 16 (by omega); have h2 := blen_shift (x / 65536) 8 (by omega); simp only [Nat.reducePow] at h1 h2; omega))), hs⟩

theorem len_c (x : Nat) (hx : x < 4294967296) (w : World) : Pure Try.prog 150 #[.int .u64 (((x : Nat) : Int))] w (.int .i64 ((((blen x) : Nat) : Int))) := by
  refine calls_S (n := 8) (σ0 := (upd fr0 0 (.int .u64 (((x : Nat) : Int))))) (D := []) (A := []) Try.func150 rfl Try.ntmps150 rfl (a1_fr _) (SH.start w) ?_
  refine wpS_seq ?_
  refine wpS_region ?_
  refine s_y (v := .int .i64 0) (y_assign rfl) rfl ?_
  refine wpL_nil ?_
  refine thenS_n ?_
  refine wpS_seq ?_
  refine wpS_cond_f rfl ?_
  refine wpS_skip ?_
  refine thenS_n ?_
  refine wpS_seq ?_
  refine wpS_region ?_
  refine s_y (v := .int .u64 (((x : Nat) : Int))) (y_move rfl) rfl ?_
  refine s_y (v := .int .i64 ((((blen x) : Nat) : Int))) (y_call (args := #[.int .u64 (((x : Nat) : Int))]) (v := .int .i64 ((((blen x) : Nat) : Int))) Try.call219 (ev1 rfl) (fun w hs => len64_c x (by omega) w)) rfl ?_
  refine s_y (v := .int .i64 ((((blen x) : Nat) : Int))) (y_assign rfl) rfl ?_
  refine wpL_nil ?_
  refine thenS_n ?_
  refine wpS_ret ?_
  refine fin1 (v := .int .i64 ((((blen x) : Nat) : Int))) (.inr rfl) .nil Try.results150 rfl ?_
  exact fun w' hs => ⟨rfl, hs⟩

theorem stages_c (n : Int) (h1 : -9223372036854775808 ≤ n) (h2 : n < 9223372036854775808) (w : World) : Pure Try.prog 151 #[.int .i64 n] w (.int .i64 (stg n)) := by
  refine calls_S (n := 20) (σ0 := (upd fr0 0 (.int .i64 n))) (D := []) (A := []) Try.func151 rfl Try.ntmps151 rfl (a1_fr _) (SH.start w) ?_
  refine wpS_seq ?_
  refine wpS_region ?_
  refine s_y (v := .int .i64 0) (y_assign rfl) rfl ?_
  refine wpL_nil ?_
  refine thenS_n ?_
  refine wpS_seq ?_
  refine wpS_seq ?_
  refine wpS_region ?_
  refine s_y (v := .int .i64 n) (y_move rfl) rfl ?_
  refine s_y (v := .bool (decide ((n : Int) < 1))) (y_lss (a := n) (b := 1) rfl rfl rfl) rfl ?_
  refine s_y (v := .bool (decide ((n : Int) < 1))) (y_move rfl) rfl ?_
  rcases Bool.eq_false_or_eq_true (decide ((n : Int) < 1)) with b1 | b1
  · -- decide ((n : Int) < 1) True
    have p1 := of_decide_eq_true b1
    refine s_no rfl rfl rfl rfl (b' := decide ((n : Int) < 1)) rfl b1 ?_
    refine s_no rfl rfl rfl rfl (b' := decide ((n : Int) < 1)) rfl b1 ?_
    refine s_y (v := .bool true) (y_pickT (b := decide ((n : Int) < 1)) (v := .bool true) rfl b1 rfl) rfl ?_
    refine s_y (v := .bool true) (y_move rfl) rfl ?_
    refine s_no rfl rfl rfl rfl rfl rfl ?_
    refine s_no rfl rfl rfl rfl rfl rfl ?_
    refine s_no rfl rfl rfl rfl rfl rfl ?_
    refine s_no rfl rfl rfl rfl rfl rfl ?_
    refine s_no rfl rfl rfl rfl rfl rfl ?_
    refine s_y (v := .bool true) (y_pickT (v := .bool true) rfl rfl rfl) rfl ?_
    refine wpL_nil ?_
    refine thenS_n ?_
    refine wpS_cond_t rfl ?_
    refine wpS_seq ?_
    refine wpS_region ?_
    refine s_y (v := .int .i64 (-1)) (y_assign rfl) rfl ?_
    refine wpL_nil ?_
    refine thenS_n ?_
    refine wpS_ret ?_
    refine thenS_r ?_
    refine fin1 (v := .int .i64 (-1)) (.inr rfl) .nil Try.results151 rfl ?_
    exact fun w' hs => ⟨congrArg (fun z : Int => Ending.returned (.int .i64 z)) (by unfold stg; first | (rw [if_neg (by omega)]; done) | rw [if_pos ⟨by omega, by omega, by omega⟩]), hs⟩
  · -- decide ((n : Int) < 1) False
    have p1 := of_decide_eq_false b1
    refine s_gy (y_move rfl) rfl rfl rfl rfl (b' := decide ((n : Int) < 1)) rfl b1 ?_
    refine s_gy (y_gtr (a := n) (b := 65536) rfl rfl rfl) rfl rfl rfl rfl (b' := decide ((n : Int) < 1)) rfl b1 ?_
    refine s_y (v := .bool (decide ((65536 : Int) < n))) (y_pickF (b := decide ((n : Int) < 1)) (v := .bool (decide ((65536 : Int) < n))) rfl b1 rfl) rfl ?_
    refine s_y (v := .bool (decide ((65536 : Int) < n))) (y_move rfl) rfl ?_
    rcases Bool.eq_false_or_eq_true (decide ((65536 : Int) < n)) with b2 | b2
    · -- decide ((65536 : Int) < n) True
      have p2 := of_decide_eq_true b2
      refine s_no rfl rfl rfl rfl (b' := decide ((65536 : Int) < n)) rfl b2 ?_
      refine s_no rfl rfl rfl rfl (b' := decide ((65536 : Int) < n)) rfl b2 ?_
      refine s_no rfl rfl rfl rfl (b' := decide ((65536 : Int) < n)) rfl b2 ?_
      refine s_no rfl rfl rfl rfl (b' := decide ((65536 : Int) < n)) rfl b2 ?_
      refine s_no rfl rfl rfl rfl (b' := decide ((65536 : Int) < n)) rfl b2 ?_
      refine s_y (v := .bool true) (y_pickT (b := decide ((65536 : Int) < n)) (v := .bool true) rfl b2 rfl) rfl ?_
      refine wpL_nil ?_
      refine thenS_n ?_
      refine wpS_cond_t rfl ?_
      refine wpS_seq ?_
      refine wpS_region ?_
      refine s_y (v := .int .i64 (-1)) (y_assign rfl) rfl ?_
      refine wpL_nil ?_
      refine thenS_n ?_
      refine wpS_ret ?_
      refine thenS_r ?_
      refine fin1 (v := .int .i64 (-1)) (.inr rfl) .nil Try.results151 rfl ?_
      exact fun w' hs => ⟨congrArg (fun z : Int => Ending.returned (.int .i64 z)) (by unfold stg; first | (rw [if_neg (by omega)]; done) | rw [if_pos ⟨by omega, by omega, by omega⟩]), hs⟩
    · -- decide ((65536 : Int) < n) False
      have p2 := of_decide_eq_false b2
      refine s_gy (y_move rfl) rfl rfl rfl rfl (b' := decide ((65536 : Int) < n)) rfl b2 ?_
      refine s_gy (y_move rfl) rfl rfl rfl rfl (b' := decide ((65536 : Int) < n)) rfl b2 ?_
      refine s_gy (y_sub (a := n) (b := 1) (c := n - 1) rfl rfl (wI rfl (by omega) (by omega))) rfl rfl rfl rfl (b' := decide ((65536 : Int) < n)) rfl b2 ?_
      refine s_gy (y_and (a := n) (b := n - 1) (c := ((((n).toNat &&& (n - 1).toNat) : Nat) : Int)) rfl rfl (zi_and n (n - 1) (by omega) (by omega) (by omega) (by omega))) rfl rfl rfl rfl (b' := decide ((65536 : Int) < n)) rfl b2 ?_
      refine s_gy (y_neq (a := ((((n).toNat &&& (n - 1).toNat) : Nat) : Int)) (b := 0) (c := decide ((((n).toNat &&& (n - 1).toNat) : Nat) ≠ 0)) rfl rfl (by simp only [decide_eq_decide]; omega)) rfl rfl rfl rfl (b' := decide ((65536 : Int) < n)) rfl b2 ?_
      refine s_y (v := .bool (decide ((((n).toNat &&& (n - 1).toNat) : Nat) ≠ 0))) (y_pickF (b := decide ((65536 : Int) < n)) (v := .bool (decide ((((n).toNat &&& (n - 1).toNat) : Nat) ≠ 0))) rfl b2 rfl) rfl ?_
      refine wpL_nil ?_
      refine thenS_n ?_
      refine wpS_cond (t := decide ((((n).toNat &&& (n - 1).toNat) : Nat) ≠ 0)) rfl (fun b3 => ?_) (fun b3 => ?_)
      · -- decide ((((n).toNat &&& (n - 1).toNat) : Nat) ≠ 0) true
        have p3 := of_decide_eq_true b3
        refine wpS_seq ?_
        refine wpS_region ?_
        refine s_y (v := .int .i64 (-1)) (y_assign rfl) rfl ?_
        refine wpL_nil ?_
        refine thenS_n ?_
        refine wpS_ret ?_
        refine thenS_r ?_
        refine fin1 (v := .int .i64 (-1)) (.inr rfl) .nil Try.results151 rfl ?_
        exact fun w' hs => ⟨congrArg (fun z : Int => Ending.returned (.int .i64 z)) (by unfold stg; first | (rw [if_neg (by omega)]; done) | rw [if_pos ⟨by omega, by omega, by omega⟩]), hs⟩
      · -- decide ((((n).toNat &&& (n - 1).toNat) : Nat) ≠ 0) false
        have p3 := of_decide_eq_false b3
        refine wpS_skip ?_
        refine thenS_n ?_
        refine wpS_seq ?_
        refine wpS_region ?_
        refine s_y (v := .int .i64 n) (y_move rfl) rfl ?_
        refine s_y (v := .int .u64 ((((n).toNat : Nat) : Int))) (y_convI (a := n) (c := (((n).toNat : Nat) : Int)) rfl Try.underlying3 Try.underlying46 (wU (by omega) (by omega) (by omega))) rfl ?_
        refine s_y (v := .int .i64 ((((blen ((n).toNat)) : Nat) : Int))) (y_call (args := #[.int .u64 ((((n).toNat : Nat) : Int))]) (v := .int .i64 ((((blen ((n).toNat)) : Nat) : Int))) Try.call150 (ev1 rfl) (fun w hs => len_c ((n).toNat) (by omega) w)) rfl ?_
        have hb := blen_le (n := n.toNat) (k := 17) (by omega)
        refine s_y (v := .int .i64 ((((blen ((n).toNat)) : Nat) : Int) - 1)) (y_sub (a := (((blen ((n).toNat)) : Nat) : Int)) (b := 1) (c := (((blen ((n).toNat)) : Nat) : Int) - 1) rfl rfl (wI rfl (by omega) (by omega))) rfl ?_
        refine s_y (v := .int .i64 ((((blen ((n).toNat)) : Nat) : Int) - 1)) (y_assign rfl) rfl ?_
        refine wpL_nil ?_
        refine thenS_n ?_
        refine wpS_ret ?_
        refine fin1 (v := .int .i64 ((((blen ((n).toNat)) : Nat) : Int) - 1)) (.inr rfl) .nil Try.results151 rfl ?_
        exact fun w' hs => ⟨congrArg (fun z : Int => Ending.returned (.int .i64 z)) (by unfold stg; first | (rw [if_neg (by omega)]; done) | rw [if_pos ⟨by omega, by omega, by omega⟩]), hs⟩

theorem rounds_c (n : Int) (h1 : -9223372036854775808 ≤ n) (h2 : n < 9223372036854775808) (w : World) : Pure Try.prog 52 #[.int .i64 n] w (.int .i64 ((((rnd n) : Nat) : Int))) := by
  refine calls_S (n := 12) (σ0 := (upd fr0 0 (.int .i64 n))) (D := []) (A := []) Try.func52 rfl Try.ntmps52 rfl (a1_fr _) (SH.start w) ?_
  have hb := stg_bd n
  have hk := stgN_le n
  have hm : stgN n * (stgN n + 1) ≤ 16 * 17 := Nat.mul_le_mul hk (by omega)
  refine wpS_seq ?_
  refine wpS_region ?_
  refine s_y (v := .int .i64 0) (y_assign rfl) rfl ?_
  refine wpL_nil ?_
  refine thenS_n ?_
  refine wpS_seq ?_
  refine wpS_region ?_
  refine s_y (v := .int .i64 n) (y_move rfl) rfl ?_
  refine s_y (v := .int .i64 (stg n)) (y_call (args := #[.int .i64 n]) (v := .int .i64 (stg n)) Try.call151 (ev1 rfl) (fun w hs => stages_c n (by omega) (by omega) w)) rfl ?_
  refine s_y (v := .int .i64 ((((stgN n) : Nat) : Int))) (y_max (a := stg n) (b := 0) (c := (((stgN n) : Nat) : Int)) rfl rfl (stgN_max n)) rfl ?_
  refine s_y (v := .int .i64 ((((stgN n) : Nat) : Int))) (y_assign rfl) rfl ?_
  refine wpL_nil ?_
  refine thenS_n ?_
  refine wpS_seq ?_
  refine wpS_region ?_
  refine s_y (v := .int .i64 ((((stgN n) : Nat) : Int))) (y_move rfl) rfl ?_
  refine s_y (v := .int .i64 ((((stgN n) : Nat) : Int))) (y_move rfl) rfl ?_
  refine s_y (v := .int .i64 (((((stgN n) + 1) : Nat) : Int))) (y_add (a := (((stgN n) : Nat) : Int)) (b := 1) (c := ((((stgN n) + 1) : Nat) : Int)) rfl rfl (wI (by omega) (by omega) (by omega))) rfl ?_
  refine s_y (v := .int .i64 ((((stgN n * (stgN n + 1)) : Nat) : Int))) (y_mul (a := (((stgN n) : Nat) : Int)) (b := ((((stgN n) + 1) : Nat) : Int)) (c := (((stgN n * (stgN n + 1)) : Nat) : Int)) rfl rfl (stgN_mul n)) rfl ?_
  refine s_y (v := .int .i64 (((((stgN n * (stgN n + 1)) / 2) : Nat) : Int))) (y_quo (a := (((stgN n * (stgN n + 1)) : Nat) : Int)) (b := 2) (c := ((((stgN n * (stgN n + 1)) / 2) : Nat) : Int)) rfl rfl (by omega) (n_quo _ 2 (by omega) (by omega))) rfl ?_
  refine s_y (v := .int .i64 (((((stgN n * (stgN n + 1)) / 2) : Nat) : Int))) (y_assign rfl) rfl ?_
  refine wpL_nil ?_
  refine thenS_n ?_
  refine wpS_ret ?_
  refine fin1 (v := .int .i64 (((((stgN n * (stgN n + 1)) / 2) : Nat) : Int))) (.inr rfl) .nil Try.results52 rfl ?_
  exact fun w' hs => ⟨rfl, hs⟩

theorem padded_c (n : Int) (h1 : -9223372036854775808 ≤ n) (h2 : n < 9223372036854775808) (w : World) : Pure Try.prog 50 #[.int .i64 n] w (.int .i64 ((((pad n) : Nat) : Int))) := by
  refine calls_S (n := 11) (σ0 := (upd fr0 0 (.int .i64 n))) (D := []) (A := []) Try.func50 rfl Try.ntmps50 rfl (a1_fr _) (SH.start w) ?_
  have hc := clampP_bd n
  have hl := blen_le (n := clampP n - 1) (k := 16) (by omega)
  refine wpS_seq ?_
  refine wpS_region ?_
  refine s_y (v := .int .i64 0) (y_assign rfl) rfl ?_
  refine wpL_nil ?_
  refine thenS_n ?_
  refine wpS_seq ?_
  refine wpS_region ?_
  refine s_y (v := .int .i64 n) (y_move rfl) rfl ?_
  refine s_y (v := .int .i64 (min n 65536)) (y_min (a := n) (b := 65536) (c := min n 65536) rfl rfl (by split <;> omega)) rfl ?_
  refine s_y (v := .int .i64 ((((clampP n) : Nat) : Int))) (y_max (a := 1) (b := min n 65536) (c := (((clampP n) : Nat) : Int)) rfl rfl (clampP_max n)) rfl ?_
  refine s_y (v := .int .i64 ((((clampP n) : Nat) : Int))) (y_assign rfl) rfl ?_
  refine wpL_nil ?_
  refine thenS_n ?_
  refine wpS_seq ?_
  refine wpS_region ?_
  refine s_y (v := .int .i64 ((((clampP n) : Nat) : Int))) (y_move rfl) rfl ?_
  refine s_y (v := .int .i64 ((((clampP n - 1) : Nat) : Int))) (y_sub (a := (((clampP n) : Nat) : Int)) (b := 1) (c := (((clampP n - 1) : Nat) : Int)) rfl rfl (wI (by omega) (by omega) (by omega))) rfl ?_
  refine s_y (v := .int .u64 ((((clampP n - 1) : Nat) : Int))) (y_convI (a := (((clampP n - 1) : Nat) : Int)) (c := (((clampP n - 1) : Nat) : Int)) rfl Try.underlying3 Try.underlying46 (wU rfl (by omega) (by omega))) rfl ?_
  refine s_y (v := .int .i64 ((((blen (clampP n - 1)) : Nat) : Int))) (y_call (args := #[.int .u64 ((((clampP n - 1) : Nat) : Int))]) (v := .int .i64 ((((blen (clampP n - 1)) : Nat) : Int))) Try.call150 (ev1 rfl) (fun w hs => len_c (clampP n - 1) (by omega) w)) rfl ?_
  refine s_y (v := .int .i64 ((((2 ^ (blen (clampP n - 1))) : Nat) : Int))) (y_shl (a := 1) (b := (((blen (clampP n - 1)) : Nat) : Int)) (c := (((2 ^ (blen (clampP n - 1))) : Nat) : Int)) rfl rfl (by omega) (z1_shl (((blen (clampP n - 1)) : Nat) : Int) (by omega) (by omega))) rfl ?_
  refine s_y (v := .int .i64 ((((2 ^ (blen (clampP n - 1))) : Nat) : Int))) (y_assign rfl) rfl ?_
  refine wpL_nil ?_
  refine thenS_n ?_
  refine wpS_ret ?_
  refine fin1 (v := .int .i64 ((((2 ^ (blen (clampP n - 1))) : Nat) : Int))) (.inr rfl) .nil Try.results50 rfl ?_
  exact fun w' hs => ⟨rfl, hs⟩

end Go.Proofs.Ytldkjjnjdjfipaa
