/- Plain laws of the answers without branches. -/
namespace Go.Proofs.Ytldkjjnjdjfipaa
set_option linter.unusedVariables false
set_option linter.unusedSimpArgs false

def b64 (b : Bool) : UInt64 := bif b then 1 else 0

theorem shr63 (x : UInt64) : x >>> 63 = b64 (decide (9223372036854775808 ≤ x.toNat)) := by
  have h1 := UInt64.toNat_lt x
  apply UInt64.toNat_inj.1
  rw [UInt64.toNat_shiftRight, Nat.shiftRight_eq_div_pow]
  show x.toNat / 2 ^ (63 % 64) = _
  unfold b64
  by_cases h : 9223372036854775808 ≤ x.toNat
  · rw [decide_eq_true h]; show x.toNat / 9223372036854775808 = 1; omega
  · rw [decide_eq_false h]; show x.toNat / 9223372036854775808 = 0; omega

/-- the highest bit -/
def top (x : UInt64) : Bool := decide (9223372036854775808 ≤ x.toNat)
theorem top_msb (x : UInt64) : top x = x.toBitVec.msb := by
  rw [BitVec.msb_eq_decide]; rfl
theorem top_and (x y : UInt64) : top (x &&& y) = (top x && top y) := by rw [top_msb, top_msb, top_msb]; exact BitVec.msb_and
theorem top_or (x y : UInt64) : top (x ||| y) = (top x || top y) := by rw [top_msb, top_msb, top_msb]; exact BitVec.msb_or
theorem top_not (x : UInt64) : top (~~~x) = !top x := by
  rw [top_msb, top_msb]
  have : (~~~x).toBitVec = ~~~x.toBitVec := rfl
  rw [this, BitVec.msb_not]
  simp

theorem ct_less (a b : UInt64) : ((~~~a &&& b) ||| ((~~~a ||| b) &&& (a - b))) >>> 63 = b64 (decide (a < b)) := by
  rw [shr63]
  congr 1
  show top _ = _
  rw [top_or, top_and, top_and, top_or, top_not]
  have h1 := UInt64.toNat_lt a
  have h2 := UInt64.toNat_lt b
  have h3 : (a - b).toNat = (18446744073709551616 - b.toNat + a.toNat) % 18446744073709551616 := by
    rw [UInt64.toNat_sub]
  have h4 : (a < b) ↔ a.toNat < b.toNat := UInt64.lt_iff_toNat_lt
  unfold top
  rw [h3]
  by_cases ha : 9223372036854775808 ≤ a.toNat <;> by_cases hb : 9223372036854775808 ≤ b.toNat <;> simp [ha, hb, h4] <;> omega

theorem ct_below_key (a b : Int64) : decide (a.toUInt64 ^^^ 9223372036854775808 < b.toUInt64 ^^^ 9223372036854775808) = decide (a < b) := by
  simp only [decide_eq_decide]
  rw [UInt64.lt_iff_toNat_lt, Int64.lt_iff_toInt_lt]
  have key : ∀ x : Int64, ((x.toUInt64 ^^^ 9223372036854775808).toNat : Int) = x.toInt + 9223372036854775808 := by
    intro x
    have e1 : x.toInt = x.toBitVec.toInt := rfl
    have e2 : (x.toUInt64 ^^^ 9223372036854775808).toNat = (x.toBitVec ^^^ BitVec.ofNat 64 9223372036854775808).toNat := rfl
    have hx := x.toBitVec.isLt
    have e3 : (x.toBitVec ^^^ BitVec.ofNat 64 9223372036854775808) = x.toBitVec + BitVec.ofNat 64 9223372036854775808 := by
      have : BitVec.ofNat 64 9223372036854775808 = BitVec.intMin 64 := by decide
      rw [this]
      apply BitVec.eq_of_getElem_eq
      intro i hi
      rw [BitVec.getElem_xor, BitVec.getElem_add]
      have hc : BitVec.carry i x.toBitVec (BitVec.intMin 64) false = false := by
        rw [BitVec.carry]
        simp only [Bool.toNat_false, Nat.add_zero, decide_eq_false_iff_not, ge_iff_le, Nat.not_le]
        have hm : (BitVec.intMin 64).toNat % 2 ^ i = 0 := by
          have : (BitVec.intMin 64).toNat = 2 ^ 63 := by decide
          rw [this]
          have hi' : i ≤ 63 := by omega
          obtain ⟨k, hk⟩ := Nat.exists_eq_add_of_le hi'
          rw [hk, Nat.pow_add]
          exact Nat.mul_mod_right _ _
        rw [hm, Nat.add_zero]
        exact Nat.mod_lt _ (Nat.two_pow_pos i)
      rw [hc]
      simp
    rw [e2, e3, e1, BitVec.toNat_add, BitVec.toInt_eq_toNat_cond]
    have : (BitVec.ofNat 64 9223372036854775808).toNat = 9223372036854775808 := by decide
    rw [this]
    split <;> omega
  have ka := key a
  have kb := key b
  omega

theorem ct_same (a b : UInt64) : ((a ^^^ b) ||| -(a ^^^ b)) >>> 63 ^^^ 1 = b64 (decide (a = b)) := by
  have hx : (a ^^^ b = 0) ↔ a = b := by
    constructor
    · intro h
      have : a ^^^ b ^^^ b = 0 ^^^ b := by rw [h]
      rwa [UInt64.xor_assoc, UInt64.xor_self, UInt64.xor_zero, UInt64.zero_xor] at this
    · intro h; rw [h, UInt64.xor_self]
  generalize hd : a ^^^ b = d at *
  rw [shr63]
  have e : decide (9223372036854775808 ≤ (d ||| -d).toNat) = !decide (d = 0) := by
    show top _ = _
    rw [top_or]
    unfold top
    rw [UInt64.toNat_neg]
    have h1 := UInt64.toNat_lt d
    simp only [UInt64.size]
    by_cases h0 : d = 0
    · subst h0; rfl
    · have : d.toNat ≠ 0 := fun h => h0 (UInt64.toNat_inj.1 h)
      rw [decide_eq_false h0]
      simp
      omega
  rw [e]
  by_cases h0 : d = 0
  · have : a = b := hx.1 h0
    simp [h0, this, b64]
  · have : ¬ a = b := fun h => h0 (hx.2 h)
    simp [h0, this, b64]

theorem ct_pick (c a b : UInt64) : (a &&& -(c &&& 1)) ||| (b &&& ~~~(-(c &&& 1))) = if c &&& 1 = 1 then a else b := by
  have h : c &&& 1 = 0 ∨ c &&& 1 = 1 := by
    have : (c &&& 1).toNat = c.toNat % 2 := by
      rw [UInt64.toNat_and]
      show c.toNat &&& 1 = _
      exact Nat.and_one_is_mod _
    rcases Nat.mod_two_eq_zero_or_one c.toNat with h | h
    · left; exact UInt64.toNat_inj.1 (by rw [this, h]; rfl)
    · right; exact UInt64.toNat_inj.1 (by rw [this, h]; rfl)
  rcases h with h | h
  · rw [h]; simp
  · rw [h]
    have e2 : ~~~(-1 : UInt64) = 0 := by decide
    rw [e2, UInt64.and_zero, UInt64.or_zero, UInt64.and_neg_one, if_pos rfl]
end Go.Proofs.Ytldkjjnjdjfipaa
