/- The network on numbers, its words. -/
import Derived.Test.YtldkjjnjdjfipaaWRndS
import Derived.Test.YtldkjjnjdjfipaaP13b
namespace Go.Proofs.Ytldkjjnjdjfipaa
open Go Go.RowKit
set_option linter.unusedVariables false
set_option linter.unusedSimpArgs false
set_option maxRecDepth 10000
set_option maxHeartbeats 1000000

def fillZ (l : List Int64) (N i : Nat) : List Int := (List.range N).map fun j => if j < i ∧ j < l.length then (l.getD j default).toInt else 0
theorem fillZ_len (l : List Int64) (N i : Nat) : (fillZ l N i).length = N := by simp [fillZ]
theorem fillZ_0 (l : List Int64) (N : Nat) : List.replicate N (0 : Int) = fillZ l N 0 := by
  apply List.ext_getElem
  · simp [fillZ]
  · intro i h1 h2
    simp [fillZ]
theorem fillZ_set {l : List Int64} {N i : Nat} (h : i < N) (h2 : i < l.length) : (fillZ l N i).set i ((l.getD i default).toInt) = fillZ l N (i + 1) := by
  apply List.ext_getElem
  · simp [fillZ]
  · intro j h3 h4
    simp [fillZ] at h3 h4
    rw [List.getElem_set]
    by_cases hj : i = j
    · subst hj
      simp [fillZ, h2]
    · rw [if_neg hj]
      simp only [fillZ, List.getElem_map, List.getElem_range]
      have : (j < i ∧ j < l.length) ↔ (j < i + 1 ∧ j < l.length) := by omega
      simp only [this]
theorem fillZ_end {l : List Int64} {N i : Nat} (hi : i ≤ N) (h : ¬ (i < N ∧ i < l.length)) : fillZ l N i = fillZ l N N := by
  unfold fillZ
  refine List.map_congr_left fun j hj => ?_
  have hj2 := List.mem_range.1 hj
  have : (j < i ∧ j < l.length) ↔ (j < N ∧ j < l.length) := by omega
  simp only [this]

/-- stage and step of a round of 2 ^ K places -/
def stK (K r : Nat) : Nat × Nat := stp ((2 ^ K : Nat) : Int) (r : Int)
theorem stgN_pow {K : Nat} (h : K ≤ 16) : stgN ((2 ^ K : Nat) : Int) = K := by
  have := stg_pow (n := ((2 ^ K : Nat) : Int)) (j := K) rfl (by have := Nat.pow_le_pow_right (n := 2) (by decide) h; omega)
  have h2 := stgN_eq ((2 ^ K : Nat) : Int)
  omega
theorem stpA_at {K s j : Nat} (hs : s < K) (hj : j ≤ s) : ∀ d u, s - u = d → u ≤ s → stpA K (u + 1) (Bit.tri s + j - Bit.tri u) = (s + 1, s + 1 - j)
  | 0, u, hd, hu => by
    obtain rfl : u = s := by omega
    rw [Nat.add_sub_cancel_left, stpA_hit (by omega) (by omega)]
  | d + 1, u, hd, hu => by
    have h1 := Bit.tri_succ u
    have h2 : Bit.tri (u + 1) ≤ Bit.tri s := Bit.tri_mono (by omega)
    rw [stpA_next (by omega) (by omega)]
    have e : Bit.tri s + j - Bit.tri u - (u + 1) = Bit.tri s + j - Bit.tri (u + 1) := by omega
    rw [e]
    exact stpA_at hs hj d (u + 1) (by omega) (by omega)
theorem stK_at {K : Nat} (hK : K ≤ 16) (s j : Nat) (hs : s < K) (hj : j ≤ s) : stK K (Bit.tri s + j) = (s + 1, s + 1 - j) := by
  unfold stK
  rw [stp_at (by omega), stgN_pow hK, Int.toNat_natCast]
  exact stpA_at hs hj s 0 (by omega) (by omega)
def stepK (K r : Nat) (X : List Int) (a : Nat) : List Int := Bit.cmpStep (decide (a / 2 ^ (stK K r).1 % 2 = 0)) (2 ^ ((stK K r).2 - 1)) X a
def netK (K : Nat) (x : List Int) (r : Nat) : List Int := Bit.netTo (2 ^ K) (fun r => 2 ^ ((stK K r).2 - 1)) (stepK K) x r
def cmpTo (K r : Nat) (X : List Int) (i : Nat) : List Int := ((frs ((2 ^ K : Nat) : Int) (r : Int)).take i).foldl (stepK K r) X
theorem cmpTo_len (K r : Nat) (X : List Int) : ∀ i, (cmpTo K r X i).length = X.length := fun i => by
  unfold cmpTo
  generalize (frs ((2 ^ K : Nat) : Int) (r : Int)).take i = t
  induction t generalizing X with
  | nil => rfl
  | cons a t ih => rw [List.foldl_cons, ih]; exact Bit.cmpStep_len _ _ _ _
theorem netK_len (K : Nat) (x : List Int) : ∀ r, (netK K x r).length = x.length
  | 0 => rfl
  | r + 1 => by
    have ih := netK_len K x r
    rw [← ih]
    show ((Bit.firsts (2 ^ K) (2 ^ ((stK K r).2 - 1))).foldl (stepK K r) (netK K x r)).length = _
    generalize Bit.firsts (2 ^ K) (2 ^ ((stK K r).2 - 1)) = t
    generalize netK K x r = X
    induction t generalizing X with
    | nil => rfl
    | cons a t ih => rw [List.foldl_cons, ih]; exact Bit.cmpStep_len _ _ _ _
theorem rnd_tri {K : Nat} (h : K ≤ 16) : rnd ((2 ^ K : Nat) : Int) = Bit.tri K := rnd_pow K (by omega)
theorem rnd21 {K : Nat} (h : K < 7) : rnd ((2 ^ K : Nat) : Int) ≤ 21 := by
  rw [rnd_tri (by omega)]
  have h2 := Bit.tri_mono (show K ≤ 6 by omega)
  have h3 : Bit.tri 6 = 21 := by decide
  omega
theorem stK_pos {K r : Nat} (h : K ≤ 16) (hr : r < rnd ((2 ^ K : Nat) : Int)) : 0 < (stK K r).1 := by
  rw [rnd_tri h] at hr
  obtain ⟨s, j, h1, h2, rfl⟩ := Bit.tri_find K r hr
  rw [stK_at h s j h1 h2]
  omega
theorem farK {K r : Nat} (h : K ≤ 16) (hr : r < rnd ((2 ^ K : Nat) : Int)) : far ((2 ^ K : Nat) : Int) (r : Int) = 2 ^ ((stK K r).2 - 1) := far_yes (stK_pos h hr)
theorem frsK {K r : Nat} (h : K ≤ 16) (hr : r < rnd ((2 ^ K : Nat) : Int)) : frs ((2 ^ K : Nat) : Int) (r : Int) = Bit.firsts (2 ^ K) (2 ^ ((stK K r).2 - 1)) := by
  unfold frs
  have := Nat.two_pow_pos ((stK K r).2 - 1)
  rw [farK h hr, if_neg (by omega)]
  rfl
theorem cmpTo_all {K r i : Nat} {x : List Int} (h : K ≤ 16) (hr : r < rnd ((2 ^ K : Nat) : Int)) (hi : (frs ((2 ^ K : Nat) : Int) (r : Int)).length ≤ i) : cmpTo K r (netK K x r) i = netK K x (r + 1) := by
  unfold cmpTo
  rw [List.take_of_length_le hi, frsK h hr]
  rfl
theorem cmpTo_succ {K r i : Nat} {X : List Int} (hi : i < (frs ((2 ^ K : Nat) : Int) (r : Int)).length) : cmpTo K r X (i + 1) = stepK K r (cmpTo K r X i) ((frs ((2 ^ K : Nat) : Int) (r : Int)).getD i 0) := by
  unfold cmpTo
  rw [List.take_succ_eq_append_getElem hi, List.foldl_append, List.foldl_cons, List.foldl_nil, List.getD_eq_getElem?_getD, List.getElem?_eq_getElem hi, Option.getD_some]
/-- what is known of a pair of a round -/
structure PairK (K r i a : Nat) : Prop where
  z : (frsZ ((2 ^ K : Nat) : Int) (r : Int)).getD i default = (a : Int)
  y : (frsY ((2 ^ K : Nat) : Int) (r : Int)).getD i default = ((a + 2 ^ ((stK K r).2 - 1) : Nat) : Int)
  g : (frs ((2 ^ K : Nat) : Int) (r : Int)).getD i 0 = a
  lt : a + 2 ^ ((stK K r).2 - 1) < 2 ^ K
  u : up ((2 ^ K : Nat) : Int) (r : Int) (a : Int) = decide (a / 2 ^ (stK K r).1 % 2 = 0)
theorem pairK {K r i : Nat} (h : K ≤ 16) (hr : r < rnd ((2 ^ K : Nat) : Int)) (hi : i < (frs ((2 ^ K : Nat) : Int) (r : Int)).length) : ∃ a, PairK K r i a := by
  have hm : (frs ((2 ^ K : Nat) : Int) (r : Int))[i] ∈ frs ((2 ^ K : Nat) : Int) (r : Int) := List.getElem_mem hi
  generalize ha : (frs ((2 ^ K : Nat) : Int) (r : Int))[i] = a at hm
  have hf := frs_mem hm
  have hz := farK h hr
  have hp := stK_pos h hr
  have hb := stp_bd ((2 ^ K : Nat) : Int) (r : Int)
  have hs : (stK K r).1 ≤ K := by
    have h1 := rnd_tri h
    rw [h1] at hr
    obtain ⟨s, j, h1, h2, rfl⟩ := Bit.tri_find K r hr
    rw [stK_at h s j h1 h2]
    show s + 1 ≤ K
    omega
  have hbb : (stK K r).2 ≤ (stK K r).1 ∧ (0 < (stK K r).1 → 1 ≤ (stK K r).2) := ⟨hb.2.1, hb.2.2⟩
  rw [hz] at hf
  have hlt := Bit.partner_lt (K := K) (t := (stK K r).2) (a := a) (by omega) (by omega) (by omega) hf.2.2.1
  have he : (frs ((2 ^ K : Nat) : Int) (r : Int))[i]? = some a := by rw [List.getElem?_eq_getElem hi, ha]
  refine ⟨a, ?_, ?_, ?_, hlt, ?_⟩
  · unfold frsZ; rw [List.getD_eq_getElem?_getD, List.getElem?_map, he]; rfl
  · rw [← hz]
    unfold frsY; rw [List.getD_eq_getElem?_getD, List.getElem?_map, he]; rfl
  · rw [List.getD_eq_getElem?_getD, he]; rfl
  · rw [← up_y (n := ((2 ^ K : Nat) : Int)) (r := (r : Int)) (a := (a : Int)) (by show ¬ (stK K r).1 = 0; omega) (by omega) (by omega) (by rw [Int.toNat_natCast]; show ¬ a / 2 ^ ((stK K r).2 - 1) % 2 ≠ 0; simp [hf.2.2.1])]
    rfl
theorem cmp_skip {K r i a : Nat} {X : List Int} (hi : i < (frs ((2 ^ K : Nat) : Int) (r : Int)).length) (p : PairK K r i a)
    (h : ¬ ((decide ((cmpTo K r X i).getD ((frsY ((2 ^ K : Nat) : Int) (r : Int)).getD i default).toNat default < (cmpTo K r X i).getD ((frsZ ((2 ^ K : Nat) : Int) (r : Int)).getD i default).toNat default) == up ((2 ^ K : Nat) : Int) (r : Int) ((frsZ ((2 ^ K : Nat) : Int) (r : Int)).getD i default)) = true ∧
      (cmpTo K r X i).getD ((frsZ ((2 ^ K : Nat) : Int) (r : Int)).getD i default).toNat default ≠ (cmpTo K r X i).getD ((frsY ((2 ^ K : Nat) : Int) (r : Int)).getD i default).toNat default)) : cmpTo K r X (i + 1) = cmpTo K r X i := by
  rw [p.z, p.y, Int.toNat_natCast, Int.toNat_natCast, p.u] at h
  rw [cmpTo_succ hi, p.g]
  unfold stepK Bit.cmpStep
  exact if_neg h
theorem cmp_skipA {K r i a : Nat} {X : List Int} (hi : i < (frs ((2 ^ K : Nat) : Int) (r : Int)).length) (p : PairK K r i a)
    (h : (decide ((cmpTo K r X i).getD ((frsY ((2 ^ K : Nat) : Int) (r : Int)).getD i default).toNat default < (cmpTo K r X i).getD ((frsZ ((2 ^ K : Nat) : Int) (r : Int)).getD i default).toNat default) == up ((2 ^ K : Nat) : Int) (r : Int) ((frsZ ((2 ^ K : Nat) : Int) (r : Int)).getD i default)) = false) : cmpTo K r X (i + 1) = cmpTo K r X i :=
  cmp_skip hi p fun hh => by rw [h] at hh; cases hh.1
theorem cmp_skipB {K r i a : Nat} {X : List Int} (hi : i < (frs ((2 ^ K : Nat) : Int) (r : Int)).length) (p : PairK K r i a)
    (h : decide ((cmpTo K r X i).getD ((frsZ ((2 ^ K : Nat) : Int) (r : Int)).getD i default).toNat default ≠ (cmpTo K r X i).getD ((frsY ((2 ^ K : Nat) : Int) (r : Int)).getD i default).toNat default) = false) : cmpTo K r X (i + 1) = cmpTo K r X i :=
  cmp_skip hi p fun hh => of_decide_eq_false h hh.2
theorem cmp_swap {K r i a : Nat} {X : List Int} (hi : i < (frs ((2 ^ K : Nat) : Int) (r : Int)).length) (p : PairK K r i a)
    (h1 : (decide ((cmpTo K r X i).getD ((frsY ((2 ^ K : Nat) : Int) (r : Int)).getD i default).toNat default < (cmpTo K r X i).getD ((frsZ ((2 ^ K : Nat) : Int) (r : Int)).getD i default).toNat default) == up ((2 ^ K : Nat) : Int) (r : Int) ((frsZ ((2 ^ K : Nat) : Int) (r : Int)).getD i default)) = true)
    (h2 : (cmpTo K r X i).getD ((frsZ ((2 ^ K : Nat) : Int) (r : Int)).getD i default).toNat default ≠ (cmpTo K r X i).getD ((frsY ((2 ^ K : Nat) : Int) (r : Int)).getD i default).toNat default) :
    ((cmpTo K r X i).set a ((cmpTo K r X i).getD (a + 2 ^ ((stK K r).2 - 1)) default)).set (a + 2 ^ ((stK K r).2 - 1)) ((cmpTo K r X i).getD a default) = cmpTo K r X (i + 1) := by
  rw [p.z, p.y, Int.toNat_natCast, Int.toNat_natCast, p.u] at h1
  rw [p.z, p.y, Int.toNat_natCast, Int.toNat_natCast] at h2
  rw [cmpTo_succ hi, p.g]
  unfold stepK Bit.cmpStep
  exact (if_pos ⟨h1, h2⟩).symm
theorem cmp_swap1 {K r i a : Nat} {X : List Int} (hi : i < (frs ((2 ^ K : Nat) : Int) (r : Int)).length) (p : PairK K r i a)
    (h1 : (decide ((cmpTo K r X i).getD ((frsY ((2 ^ K : Nat) : Int) (r : Int)).getD i default).toNat default < (cmpTo K r X i).getD ((frsZ ((2 ^ K : Nat) : Int) (r : Int)).getD i default).toNat default) == up ((2 ^ K : Nat) : Int) (r : Int) ((frsZ ((2 ^ K : Nat) : Int) (r : Int)).getD i default)) = true)
    (h2 : (cmpTo K r X i).getD ((frsZ ((2 ^ K : Nat) : Int) (r : Int)).getD i default).toNat default ≠ (cmpTo K r X i).getD ((frsY ((2 ^ K : Nat) : Int) (r : Int)).getD i default).toNat default) :
    ((cmpTo K r X i).set ((frsZ ((2 ^ K : Nat) : Int) (r : Int)).getD i default).toNat ((cmpTo K r X i).getD ((frsY ((2 ^ K : Nat) : Int) (r : Int)).getD i default).toNat default)).set ((frsY ((2 ^ K : Nat) : Int) (r : Int)).getD i default).toNat ((cmpTo K r X i).getD ((frsZ ((2 ^ K : Nat) : Int) (r : Int)).getD i default).toNat default) = cmpTo K r X (i + 1) := by
  rw [← cmp_swap hi p h1 h2, p.z, p.y, Int.toNat_natCast, Int.toNat_natCast]
theorem cmp_swap2 {K r i a : Nat} {X : List Int} (hi : i < (frs ((2 ^ K : Nat) : Int) (r : Int)).length) (p : PairK K r i a)
    (h1 : (decide ((cmpTo K r X i).getD ((frsY ((2 ^ K : Nat) : Int) (r : Int)).getD i default).toNat default < (cmpTo K r X i).getD ((frsZ ((2 ^ K : Nat) : Int) (r : Int)).getD i default).toNat default) == up ((2 ^ K : Nat) : Int) (r : Int) ((frsZ ((2 ^ K : Nat) : Int) (r : Int)).getD i default)) = true)
    (h2 : (cmpTo K r X i).getD ((frsZ ((2 ^ K : Nat) : Int) (r : Int)).getD i default).toNat default ≠ (cmpTo K r X i).getD ((frsY ((2 ^ K : Nat) : Int) (r : Int)).getD i default).toNat default) :
    ((cmpTo K r X i).set ((frsY ((2 ^ K : Nat) : Int) (r : Int)).getD i default).toNat ((cmpTo K r X i).getD ((frsZ ((2 ^ K : Nat) : Int) (r : Int)).getD i default).toNat default)).set ((frsZ ((2 ^ K : Nat) : Int) (r : Int)).getD i default).toNat ((cmpTo K r X i).getD ((frsY ((2 ^ K : Nat) : Int) (r : Int)).getD i default).toNat default) = cmpTo K r X (i + 1) := by
  rw [← cmp_swap1 hi p h1 h2]
  refine List.set_comm _ _ fun e => ?_
  rw [p.z, p.y, Int.toNat_natCast, Int.toNat_natCast] at e
  have := Nat.two_pow_pos ((stK K r).2 - 1)
  omega
theorem net_sorted {K r i : Nat} {l : List Int64} (h : K < 7) (hr : r = rnd ((2 ^ K : Nat) : Int)) (hi : 1 ≤ i ∧ i < 2 ^ K) : (netK K (fillZ l (2 ^ K) (2 ^ K)) r).getD (i - 1) default ≤ (netK K (fillZ l (2 ^ K) (2 ^ K)) r).getD i default := by
  have hK : K ≤ 16 := by omega
  have := (Bit.net_ints (K := K) (st := stK K) (stK_at hK) (x := fillZ l (2 ^ K) (2 ^ K)) (fillZ_len _ _ _)).2 (i - 1) (by omega)
  rw [show i - 1 + 1 = i by omega] at this
  rw [hr, rnd_tri hK]
  exact this

end Go.Proofs.Ytldkjjnjdjfipaa
