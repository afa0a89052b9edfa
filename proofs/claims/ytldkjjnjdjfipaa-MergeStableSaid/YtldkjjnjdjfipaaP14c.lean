/- Plain laws for MergeStable. -/
import Derived.Test.YtldkjjnjdjfipaaP14b
namespace Go.Proofs.Ytldkjjnjdjfipaa
open Go Go.RowKit
set_option linter.unusedVariables false
set_option linter.unusedSimpArgs false

def stabRec (x : Int64) (i : Nat) : Rec := ⟨false, (x.toUInt64 % 4).toInt64, Int64.ofInt (i : Int), Int64.ofInt (-(i : Int))⟩
def stabL (l : List Int64) (i : Nat) : List Rec := (List.range i).map fun j => stabRec (l.getD j default) j
theorem stabL_succ (l : List Int64) (i : Nat) : stabL l i ++ [stabRec (l.getD i default) i] = stabL l (i + 1) := by simp [stabL, List.range_succ]
theorem stabL_len (l : List Int64) (i : Nat) : (stabL l i).length = i := by simp [stabL]
theorem ofInt_toInt {x : Int} (h1 : -9223372036854775808 ≤ x) (h2 : x < 9223372036854775808) : (Int64.ofInt x).toInt = x := Int64.toInt_ofInt_of_le h1 h2
theorem stab_cells (x : Int64) (i : Nat) (h : i < 1000000) : ([stabRec x i] : List Rec).flatMap recV = [.bool false, .int .i64 ((x.toUInt64 % 4).toInt64).toInt, .int .i64 ((i : Nat) : Int), .int .i64 (-((i : Nat) : Int))] := by
  have e1 := ofInt_toInt (x := (i : Int)) (by omega) (by omega)
  have e2 := ofInt_toInt (x := -(i : Int)) (by omega) (by omega)
  show [Value.bool false, .int .i64 ((x.toUInt64 % 4).toInt64).toInt, .int .i64 (Int64.ofInt (i : Int)).toInt, .int .i64 (Int64.ofInt (-(i : Int))).toInt] = _
  rw [e1, e2]
theorem mem_msort {sq : Bool} {l : List Rec} {r : Rec} (h : r ∈ msort sq l) : r ∈ l := by
  have h1 : r ∈ ofRk sq (rk sq r) (msort sq l) := by unfold ofRk; rw [List.mem_filter]; exact ⟨h, by simp⟩
  rw [msort_rk] at h1
  unfold ofRk at h1
  exact (List.mem_filter.1 h1).1
theorem stab_live {l : List Int64} {n : Nat} {r : Rec} (h : r ∈ stabL l n) : r.dead = false := by
  unfold stabL at h
  obtain ⟨j, -, rfl⟩ := List.mem_map.1 h
  rfl
theorem stab_at (l : List Int64) (n i : Nat) (h : i < n) : (msort false (stabL l n)).getD i default ∈ stabL l n := by
  refine mem_msort (sq := false) ?_
  have hl : i < (msort false (stabL l n)).length := by rw [msort_len, stabL_len]; exact h
  simp [List.getD_eq_getElem?_getD, hl]
theorem rk_live {r : Rec} (h : r.dead = false) : rk false r = r.key.toInt * 18446744073709551616 := by simp [rk, h]
theorem stab_key (l : List Int64) (n i : Nat) (h1 : 1 ≤ i) (h : i < n) : decide (((msort false (stabL l n)).getD i default).key < ((msort false (stabL l n)).getD (i - 1) default).key) = false := by
  have a := stab_live (stab_at l n i h)
  have b := stab_live (stab_at l n (i - 1) (by omega))
  have hs := msort_sorted false (stabL l n) (i - 1) i (by omega) (by rw [stabL_len]; exact h)
  rw [ahd_rk, decide_eq_false_iff_not, rk_live a, rk_live b] at hs
  rw [decide_eq_false_iff_not, Int64.lt_iff_toInt_lt]
  omega
theorem stab_val (l : List Int64) (n i : Nat) (hn : n < 1000000) (h1 : 1 ≤ i) (h : i < n) (hk : decide (((msort false (stabL l n)).getD i default).key = ((msort false (stabL l n)).getD (i - 1) default).key) = true) :
    decide (((msort false (stabL l n)).getD i default).value < ((msort false (stabL l n)).getD (i - 1) default).value) = false := by
  have a := stab_live (stab_at l n i h)
  have b := stab_live (stab_at l n (i - 1) (by omega))
  have hp : (stabL l n).Pairwise fun x y => x.value.toInt < y.value.toInt := by
    unfold stabL
    rw [List.pairwise_map]
    refine List.Pairwise.imp_of_mem ?_ (List.pairwise_lt_range (n := n))
    intro x y hx hy hxy
    rw [List.mem_range] at hx hy
    simp only [stabRec]
    rw [ofInt_toInt (by omega) (by omega), ofInt_toInt (by omega) (by omega)]
    omega
  have hq := List.Pairwise.filter (fun r => decide (rk false r = rk false ((msort false (stabL l n)).getD i default))) hp
  have e := msort_rk false (rk false ((msort false (stabL l n)).getD i default)) (stabL l n)
  unfold ofRk at e
  rw [← e, List.pairwise_filter, List.pairwise_iff_getElem] at hq
  have hL : (msort false (stabL l n)).length = n := by rw [msort_len, stabL_len]
  have := hq (i - 1) i (by omega) (by omega) (by omega)
  rw [decide_eq_true_eq] at hk
  have g : ∀ j, j < n → ∀ hj : j < (msort false (stabL l n)).length, (msort false (stabL l n))[j] = (msort false (stabL l n)).getD j default := fun j hj hj2 => by simp [List.getD_eq_getElem?_getD, hj2]
  rw [g (i - 1) (by omega), g i h] at this
  have h2 := this (by rw [decide_eq_true_eq, rk_live a, rk_live b, hk]) (by simp)
  rw [decide_eq_false_iff_not, Int64.lt_iff_toInt_lt]
  omega
theorem u_rem4 (x : UInt64) : ((x.toNat : Int)).tmod (4 : Int) = (((x % 4).toNat : Nat) : Int) := by
  rw [UInt64.toNat_mod]
  exact (Int.ofNat_tmod _ 4).symm
end Go.Proofs.Ytldkjjnjdjfipaa
