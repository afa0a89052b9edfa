/- What the rounds tell, gathered, walked. -/
import Derived.Test.YtldkjjnjdjfipaaWRef13
import Derived.Test.YtldkjjnjdjfipaaWHlpI
namespace Go.Proofs.Ytldkjjnjdjfipaa
open Go Go.RowKit
set_option linter.unusedVariables false
set_option linter.unusedSimpArgs false
set_option maxRecDepth 10000
set_option maxHeartbeats 1000000

def frsY (n r : Int) : List Int := (frs n r).map fun (a : Nat) => ((a + far n r : Nat) : Int)
theorem frsZ_len (n r : Int) : (frsZ n r).length = (frs n r).length := by simp [frsZ]
theorem frsY_len (n r : Int) : (frsY n r).length = (frs n r).length := by simp [frsY]
theorem map_range_getD {α : Type} (l : List Nat) (f : Nat → α) : (List.range l.length).map (fun k => f (l.getD k 0)) = l.map f := by
  apply List.ext_getElem
  · simp
  · intro i h1 h2
    simp at h1
    simp [List.getD_eq_getElem?_getD, h1]
theorem frs_mem {n r : Int} {a : Nat} (h : a ∈ frs n r) : 0 < far n r ∧ (a : Int) < n ∧ a / far n r % 2 = 0 ∧ ((a + far n r : Nat) : Int) ≤ 65536 * 2 := by
  unfold frs at h
  split at h
  · cases h
  · rename_i hf
    have hp : 0 < far n r := by omega
    unfold Bit.firsts at h
    rw [List.mem_filter, List.mem_range] at h
    have h2 := far_n hp
    have h3 := far_le n r
    exact ⟨hp, by omega, of_decide_eq_true h.2, by omega⟩
theorem frs_len (n r : Int) : (frs n r).length ≤ n.toNat ∧ (frs n r).length ≤ 65536 := by
  unfold frs
  split
  · simp
  · have h1 := List.length_filter_le (fun a => decide (a / far n r % 2 = 0)) (List.range n.toNat)
    rw [List.length_range] at h1
    have h2 := far_n (n := n) (r := r) (by omega)
    unfold Bit.firsts
    omega
theorem frsZ_bd (n r : Int) (i : Nat) : 0 ≤ (frsZ n r).getD i default ∧ (frsZ n r).getD i default ≤ 65536 := by
  rw [List.getD_eq_getElem?_getD]
  rcases Nat.lt_or_ge i (frsZ n r).length with h | h
  · rw [List.getElem?_eq_getElem h, Option.getD_some]
    have hm : (frsZ n r)[i] ∈ frsZ n r := List.getElem_mem h
    generalize (frsZ n r)[i] = z at *
    unfold frsZ at hm
    obtain ⟨a, ha, rfl⟩ := List.mem_map.1 hm
    have := frs_mem ha
    have := far_n this.1
    omega
  · rw [List.getElem?_eq_none h]; decide
theorem frsY_at {n r : Int} {i : Nat} (h : i < (frsZ n r).length) : (frsY n r).getD i default = (frsZ n r).getD i default + ((far n r : Nat) : Int) := by
  have h2 : i < (frs n r).length := by rw [← frsZ_len]; exact h
  simp [frsY, frsZ, List.getD_eq_getElem?_getD, h2]
theorem seq2r_c (n r : Int) (n1 : -9223372036854775808 ≤ n) (n2 : n < 9223372036854775808) (r1 : -9223372036854775808 ≤ r) (r2 : r < 9223372036854775808) (b2 b3 : Nat) (most : Int) (w : World) (hb2 : w.cell? ⟨b2, 0, none⟩ = some (.int .i64 n)) (hb3 : w.cell? ⟨b3, 0, none⟩ = some (.int .i64 r)) (hN : (((frs n r).length : Nat) : Int) ≤ most) (hm : most < 9223372036854775808) :
    Makes Try.prog 54 #[.func (.func 152) #[] #[.pointer (some ⟨b2, 0, none⟩), .pointer (some ⟨b3, 0, none⟩)], .int .i64 most] w [] (X := (Option Addr × Nat) × (Option Addr × Nat)) (fun x => .tuple #[slV (frsZ n r) x.1, slV (frsY n r) x.2, .bool true]) (fun x => [slR intV 1 3 (frsZ n r) x.1, slR intV 1 3 (frsY n r) x.2]) (fun _ => True) := by
  have h := seq2_c 152 _ _ _ Try.call152 (fun k => (((frs n r).getD k 0 : Nat) : Int)) (fun k => (((frs n r).getD k 0 + far n r : Nat) : Int)) most w (round_at b2 b3 n r n1 n2 r1 r2 w hb2 hb3) hN (by have := frs_len n r; omega) hm
  have e1 : (List.range (frs n r).length).map (fun k => (((frs n r).getD k 0 : Nat) : Int)) = frsZ n r := map_range_getD (frs n r) fun (a : Nat) => (a : Int)
  have e2 : (List.range (frs n r).length).map (fun k => (((frs n r).getD k 0 + far n r : Nat) : Int)) = frsY n r := map_range_getD (frs n r) fun (a : Nat) => ((a + far n r : Nat) : Int)
  rw [e1, e2] at h
  exact h
theorem stopsr_c (n r : Int) (n1 : -9223372036854775808 ≤ n) (n2 : n < 9223372036854775808) (r1 : -9223372036854775808 ≤ r) (r2 : r < 9223372036854775808) (b2 b3 : Nat) (k : Int) (w : World) (hb2 : w.cell? ⟨b2, 0, none⟩ = some (.int .i64 n)) (hb3 : w.cell? ⟨b3, 0, none⟩ = some (.int .i64 r)) (hk : 1 ≤ k) (hk2 : k < 9223372036854775808) :
    Pure Try.prog 61 #[.func (.func 152) #[] #[.pointer (some ⟨b2, 0, none⟩), .pointer (some ⟨b3, 0, none⟩)], .int .i64 k] w (.int .i64 (min k (((frs n r).length : Nat) : Int))) :=
  stops_c 152 _ _ _ Try.call152 (fun k => .int .i64 (((frs n r).getD k 0 : Nat) : Int)) (fun k => .int .i64 (((frs n r).getD k 0 + far n r : Nat) : Int)) k w (round_at b2 b3 n r n1 n2 r1 r2 w hb2 hb3) (by have := frs_len n r; omega) hk hk2

end Go.Proofs.Ytldkjjnjdjfipaa
