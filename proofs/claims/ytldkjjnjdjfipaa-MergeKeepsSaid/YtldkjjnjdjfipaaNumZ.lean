/- Numbers as integers and naturals: shifts, masks, bit lengths. It states nothing of the program. -/
import Derived.Test.YtldkjjnjdjfipaaData
namespace Go.Proofs.Ytldkjjnjdjfipaa
open Go Go.RowKit
set_option linter.unusedVariables false
set_option linter.unusedSimpArgs false

theorem bv_and (a b : Int) (ha : 0 ≤ a) (ha2 : a < 18446744073709551616) (hb : 0 ≤ b) (hb2 : b < 18446744073709551616) : ((BitVec.ofInt 64 a &&& BitVec.ofInt 64 b).toNat : Int) = ((a.toNat &&& b.toNat : Nat) : Int) := by
  rw [BitVec.toNat_and, BitVec.toNat_ofInt, BitVec.toNat_ofInt]
  congr 2
  · rw [Int.emod_eq_of_lt ha (by simpa using ha2)]
  · rw [Int.emod_eq_of_lt hb (by simpa using hb2)]
theorem zi_and (a b : Int) (ha : 0 ≤ a) (ha2 : a < 9223372036854775808) (hb : 0 ≤ b) (hb2 : b < 9223372036854775808) : IntKind.i64.wrap ((BitVec.ofInt IntKind.i64.bits a &&& BitVec.ofInt IntKind.i64.bits b).toNat : Int) = ((a.toNat &&& b.toNat : Nat) : Int) := by
  have h : a.toNat &&& b.toNat ≤ a.toNat := Nat.and_le_left
  exact wI (bv_and a b ha (by omega) hb (by omega)) (by omega) (by omega)
theorem zu_and (a b : Int) (ha : 0 ≤ a) (ha2 : a < 18446744073709551616) (hb : 0 ≤ b) (hb2 : b < 18446744073709551616) : IntKind.u64.wrap ((BitVec.ofInt IntKind.u64.bits a &&& BitVec.ofInt IntKind.u64.bits b).toNat : Int) = ((a.toNat &&& b.toNat : Nat) : Int) := by
  have h : a.toNat &&& b.toNat ≤ a.toNat := Nat.and_le_left
  exact wU (bv_and a b ha (by omega) hb (by omega)) (by omega) (by omega)
theorem zi_and1 (a : Int) (ha : 0 ≤ a) : IntKind.i64.wrap ((BitVec.ofInt IntKind.i64.bits a &&& BitVec.ofInt IntKind.i64.bits 1).toNat : Int) = ((a.toNat % 2 : Nat) : Int) := by
  obtain ⟨n, rfl⟩ := Int.eq_ofNat_of_zero_le ha
  have e : (BitVec.ofInt 64 (n : Int) &&& BitVec.ofInt 64 1).toNat = n % 2 := by
    rw [BitVec.toNat_and, BitVec.toNat_ofInt, BitVec.toNat_ofInt]
    have h1 : ((1 : Int) % ((2 ^ 64 : Nat) : Int)).toNat = 1 := by decide
    have h2 : ((n : Int) % ((2 ^ 64 : Nat) : Int)).toNat = n % 2 ^ 64 := by rw [← Int.natCast_emod]; rfl
    rw [h1, h2, Nat.and_one_is_mod]
    omega
  refine wI (congrArg (Nat.cast : Nat → Int) (e.trans ?_)) (by omega) (by omega)
  rfl
theorem zs_shr {k : IntKind} {a b : Int} (hk : 64 ≤ k.bits) (h0 : 0 ≤ a) (h : 0 ≤ b) (hb : b ≤ 64) : a / 2 ^ min b.toNat k.bits = ((a.toNat / 2 ^ b.toNat : Nat) : Int) := by
  rw [Nat.min_eq_left (by omega)]
  obtain ⟨n, rfl⟩ := Int.eq_ofNat_of_zero_le h0
  simp
theorem zn_shr {k : IntKind} (a : Int) (b q : Nat) (h : 2 ^ b = q) (hb : b ≤ k.bits) (h0 : 0 ≤ a) : a / 2 ^ min (b : Int).toNat k.bits = ((a.toNat / q : Nat) : Int) := by
  subst h
  obtain ⟨n, rfl⟩ := Int.eq_ofNat_of_zero_le h0
  rw [Int.toNat_natCast, Nat.min_eq_left hb]
  simp
theorem z1_shl (b : Int) (h : 0 ≤ b) (hb : b < 63) : IntKind.i64.wrap (1 * 2 ^ min b.toNat IntKind.i64.bits) = ((2 ^ b.toNat : Nat) : Int) := by
  obtain ⟨n, rfl⟩ := Int.eq_ofNat_of_zero_le h
  have e : min (n : Int).toNat IntKind.i64.bits = n := Nat.min_eq_left (Nat.le_trans (show n ≤ 64 by omega) (by decide))
  have hp : (2 : Nat) ^ n ≤ 2 ^ 62 := Nat.pow_le_pow_right (by decide) (by omega)
  rw [e]
  refine wI ?_ ?_ ?_
  · simp
  · have := Int.natCast_nonneg (2 ^ (n : Int).toNat)
    omega
  · simp only [Int.toNat_natCast]
    have : (2 : Nat) ^ 62 = 4611686018427387904 := by decide
    omega
theorem z_quo {a b : Int} (h0 : 0 ≤ a) (hb : 0 < b) (h : a < 9223372036854775808) : IntKind.i64.wrap (a.tdiv b) = a / b := by
  rw [Int.tdiv_eq_ediv_of_nonneg h0]
  have h1 : 0 ≤ a / b := Int.ediv_nonneg h0 (by omega)
  have h2 : a / b ≤ a := Int.ediv_le_self b h0
  exact wI rfl (by omega) (by omega)
theorem wu32 {n : Nat} (h : n < 4294967296) : IntKind.u32.wrap (n : Int) = (n : Int) := by
  simp [IntKind.wrap, IntKind.signed, IntKind.bits]; omega
theorem wu8 {n : Nat} (h : n < 256) : IntKind.u8.wrap (n : Int) = (n : Int) := by
  simp [IntKind.wrap, IntKind.signed, IntKind.bits]; omega

/-- how many bits -/
def blen (n : Nat) : Nat := if n = 0 then 0 else n.log2 + 1
theorem blen_le {n k : Nat} (h : n < 2 ^ k) : blen n ≤ k := by
  unfold blen
  split
  · omega
  · rename_i h0
    have := (Nat.log2_lt h0).2 h
    omega
theorem lt_blen (n : Nat) : n < 2 ^ blen n := by
  unfold blen
  split
  · simp_all
  · exact Nat.lt_log2_self
theorem blen_ge {n : Nat} (h : 0 < n) : 2 ^ (blen n - 1) ≤ n := by
  unfold blen
  rw [if_neg (by omega)]
  exact Nat.log2_self_le (by omega)
theorem blen_unique {n k : Nat} (h1 : 2 ^ k ≤ n) (h2 : n < 2 ^ (k + 1)) : blen n = k + 1 := by
  have h0 : n ≠ 0 := by have := Nat.two_pow_pos k; omega
  unfold blen
  rw [if_neg h0, (Nat.log2_eq_iff h0).2 ⟨h1, h2⟩]
theorem blen_shift (n k : Nat) (h : 2 ^ k ≤ n) : k + blen (n / 2 ^ k) = blen n := by
  have hp := Nat.two_pow_pos k
  have h1 : 0 < n / 2 ^ k := Nat.div_pos h hp
  have a := blen_ge h1
  have b := lt_blen (n / 2 ^ k)
  have hb : 0 < blen (n / 2 ^ k) := by unfold blen; rw [if_neg (by omega)]; omega
  obtain ⟨m, hm⟩ : ∃ m, blen (n / 2 ^ k) = m + 1 := ⟨blen (n / 2 ^ k) - 1, by omega⟩
  rw [hm] at a b ⊢
  rw [Nat.add_sub_cancel, Nat.le_div_iff_mul_le hp, ← Nat.pow_add] at a
  rw [Nat.div_lt_iff_lt_mul hp, ← Nat.pow_add] at b
  have := blen_unique (k := m + k) a (by rw [show m + k + 1 = m + 1 + k by omega]; exact b)
  omega
section
variable {P : Program} {w0 : World} {D : List Nat} {σ : Fr} {L : List Res}
/-- the table of the bytes' lengths -/
theorem y_lenTab {t : TypeId} {x y : Operand} {k : IntKind} {s : ByteArray} {i : Nat} (hx : ev σ x = .string s) (hy : ev σ y = .int k i) (ht : P.underlying t = some .string) (h : (List.range 256).all (fun i => s[i]?.map (·.toNat) == some (blen i)) = true) (hi : i < 256) :
    OpR P w0 D σ L (.index t x y) (.int .u8 ((blen i : Nat) : Int)) := y_index fun w => by
  have h1 := List.all_eq_true.1 h i (List.mem_range.2 hi)
  simp only [beq_iff_eq] at h1
  rw [hx, hy, run_index_string w t s k i ht]
  cases hs : s[i]? with
  | none => rw [hs] at h1; simp at h1
  | some b =>
    rw [hs] at h1
    have hlt : i < s.size := by
      by_cases hc : i < s.size
      · exact hc
      · rw [getElem?_neg s i hc] at hs; cases hs
    have hg : (s[i]'hlt) = b := by
      rw [getElem?_pos s i hlt] at hs; exact Option.some.inj hs
    rw [dif_pos ⟨by omega, by omega⟩]
    simp only [Int.toNat_natCast, hg]
    simp at h1
    rw [h1]
end
end Go.Proofs.Ytldkjjnjdjfipaa
