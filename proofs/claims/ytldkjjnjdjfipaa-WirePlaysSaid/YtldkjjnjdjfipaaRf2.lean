/- Slices with three bounds, slices as arrays. It states nothing of the program. -/
import Derived.Test.YtldkjjnjdjfipaaGen
namespace Go.Proofs.Ytldkjjnjdjfipaa
open Go Go.RowKit
set_option linter.unusedVariables false
set_option linter.unusedSimpArgs false
section
variable {P : Program} {w0 : World} {D : List Nat} {σ : Fr} {L M : List Res}
/-- s[i:j:m] -/
theorem y_sliceLHM {t : TypeId} {x y u v : Operand} {a : Option Addr} {m c : Nat} {k k2 k3 : IntKind} {i j q : Int} {e : TypeId} {l' h' m' : Nat} {z : Nat} (hx : ev σ x = .slice a m c) (hy : ev σ y = .int k i) (hu : ev σ u = .int k2 j) (hv : ev σ v = .int k3 q) (ht : P.underlying t = some (.slice e)) (hz : ∀ w, (sizeOf e).run P w = .ok z w)
    (h0 : 0 ≤ i) (h1 : i ≤ j) (h2 : j ≤ q) (h3 : q ≤ c) (hl : i.toNat = l') (hh : j.toNat = h') (hm : q.toNat = m') : OpR P w0 D σ L (.slice t x (some y) (some u) (some v)) (.slice (subA a m' l' z) (h' - l') (m' - l')) :=
  y_slice fun w => by
    have e1 : (i.toNat : Int) = i := Int.toNat_of_nonneg h0
    have e2 : (j.toNat : Int) = j := Int.toNat_of_nonneg (by omega)
    have e3 : (q.toNat : Int) = q := Int.toNat_of_nonneg (by omega)
    subst hl; subst hh; subst hm
    simp [hx, hy, hu, hv, Instr.sliceAt, Instr.slice, run_underlying ht, Instr.sliceBounds, Instr.sliceBound, asIntOf, hz, h0, h1, h2, h3, subA, (by omega : 0 ≤ j), (by omega : 0 ≤ q), e2, e3]
/-- (*[n]T)(s) -/
theorem y_s2a {t e : TypeId} {x : Operand} {b o m c n : Nat} (hx : ev σ x = .slice (some ⟨b, o, none⟩) m c) (ht : P.underlying t = some (.array n e)) (h : n ≤ m) : OpR P w0 D σ L (.sliceToArrayPointer t x) (.pointer (some ⟨b, o, none⟩)) :=
  .mk (by simp) fun d ty pos af g w _ => by simp [execOp, hx, Instr.arrayAt, run_underlying ht, Nat.not_lt.2 h]
/-- .. of a slice whose head is known by what lies there -/
theorem y_s2aR {t e : TypeId} {x : Operand} {a : Option Addr} {m c n : Nat} {l : List Value} (hx : ev σ x = .slice a m c) (ht : P.underlying t = some (.array n e)) (h : n ≤ m) (hr : ∀ w, SH w0 D L w → Rds w a l) (hl : 0 < l.length) : OpR P w0 D σ L (.sliceToArrayPointer t x) (.pointer (some ⟨aB a, aO a, none⟩)) :=
  .mk (by simp) fun d ty pos af g w hs => by
    have ha := (hr w hs).head hl
    generalize hb : aB a = b at *
    generalize ho : aO a = o at *
    subst ha
    simp [execOp, hx, Instr.arrayAt, run_underlying ht, Nat.not_lt.2 h]
theorem rdsChunk {α : Type} {enc : α → List Value} {z : Nat} {a : Option Addr} {l : List α} {lo q : Nat} (hz : ∀ x, (enc x).length = z) (h : ∀ w, SH w0 D L w → Rds w a (l.flatMap enc)) : ∀ w, SH w0 D L w → Rds w (subA a (lo + q) lo z) (((l.drop lo).take q).flatMap enc) := fun w hs => by
  have h1 := (h w hs).sub (cap := lo + q) (lo := lo) (hi := lo + q) (sz := z) (Nat.le_refl _)
  rw [Nat.add_sub_cancel_left, fl_drop hz, fl_take hz] at h1
  exact h1
theorem chunk_lt {z i m : Nat} (h : z * i < z * m) : i < m := Nat.lt_of_mul_lt_mul_left h
theorem chunk_ge {z i m : Nat} (hz : 1 ≤ z) (h : z * m ≤ z * i) : m ≤ i := Nat.le_of_mul_le_mul_left h hz
theorem chunk_len {z k m n : Nat} (hk : k < m) (hn : n = z * m) : min z (n - z * k) = z := by
  have := Nat.mul_le_mul_left z (show k + 1 ≤ m by omega)
  rw [Nat.mul_succ] at this
  omega
end
/-! bytes of numbers -/
def lowB (v : UInt64) (i : Nat) : UInt8 := UInt8.ofNat (v.toNat / 2 ^ (8 * i))
theorem lowB_wrap (v : UInt64) (i : Nat) : IntKind.u8.wrap ((v.toNat / 2 ^ (8 * i) : Nat) : Int) = (((lowB v i).toNat : Nat) : Int) := by
  unfold lowB
  rw [UInt8.toNat_ofNat']
  simp [IntKind.wrap, IntKind.signed, IntKind.bits]
def le8To (v : UInt64) (i : Nat) : List UInt8 := (List.range i).map (lowB v)
theorem le8To_next (l : List UInt8) (v : UInt64) (i : Nat) : (l ++ le8To v i) ++ [lowB v i] = l ++ le8To v (i + 1) := by simp [le8To, List.range_succ]
theorem le8To_next0 (v : UInt64) (i : Nat) : le8To v i ++ [lowB v i] = le8To v (i + 1) := by simp [le8To, List.range_succ]
theorem le8To_len (v : UInt64) (i : Nat) : (le8To v i).length = i := by simp [le8To]
def le8 (v : UInt64) : List UInt8 := le8To v 8
theorem le8_len (v : UInt64) : (le8 v).length = 8 := le8To_len v 8
/-- the number that bytes are, the lowest first -/
def valN : List UInt8 → Nat
  | [] => 0
  | b :: l => b.toNat + 256 * valN l
theorem valN_lt : ∀ l, valN l < 256 ^ l.length
  | [] => by decide
  | b :: l => by
    have h1 := valN_lt l
    have h2 : b.toNat < 256 := b.toNat_lt
    simp only [valN, List.length_cons, Nat.pow_succ]
    omega
theorem valN_snoc : ∀ (l : List UInt8) (b : UInt8), valN (l ++ [b]) = valN l + b.toNat * 256 ^ l.length
  | [], b => by simp [valN]
  | c :: l, b => by
    simp only [List.cons_append, valN, valN_snoc l b, List.length_cons, Nat.pow_succ]
    rw [Nat.mul_add, Nat.mul_comm 256 (b.toNat * _), Nat.mul_assoc]
    omega
theorem pow256 (i : Nat) : 256 ^ i = 2 ^ (8 * i) := by rw [Nat.pow_mul]
theorem or_add {a b i : Nat} (ha : a < 2 ^ i) : a ||| b * 2 ^ i = a + b * 2 ^ i := by
  rw [Nat.or_comm, ← Nat.shiftLeft_eq, ← Nat.shiftLeft_add_eq_or_of_lt ha, Nat.add_comm]
theorem bv_or (a b : Nat) (ha : a < 18446744073709551616) (hb : b < 18446744073709551616) : ((BitVec.ofInt 64 (a : Int) ||| BitVec.ofInt 64 (b : Int)).toNat : Int) = ((a ||| b : Nat) : Int) := by
  rw [BitVec.toNat_or, BitVec.toNat_ofInt, BitVec.toNat_ofInt]
  congr 2
  · rw [Int.emod_eq_of_lt (by omega) (by simpa using (by omega : (a : Int) < 18446744073709551616))]; simp
  · rw [Int.emod_eq_of_lt (by omega) (by simpa using (by omega : (b : Int) < 18446744073709551616))]; simp
theorem u64_or {a b c : Nat} (h : a ||| b = c) (ha : a < 18446744073709551616) (hb : b < 18446744073709551616) (hc : c < 18446744073709551616) : IntKind.u64.wrap ((BitVec.ofInt IntKind.u64.bits (a : Int) ||| BitVec.ofInt IntKind.u64.bits (b : Int)).toNat : Int) = ((c : Nat) : Int) := by
  subst h
  exact wU (bv_or a b ha hb) (by omega) (by omega)
theorem u64_shl {a m c : Nat} (hm : m ≤ 64) (h : a * 2 ^ m = c) (hc : c < 18446744073709551616) : IntKind.u64.wrap ((a : Int) * 2 ^ min ((m : Nat) : Int).toNat IntKind.u64.bits) = ((c : Nat) : Int) := by
  have e : min ((m : Nat) : Int).toNat IntKind.u64.bits = m := by rw [Int.toNat_natCast]; exact Nat.min_eq_left hm
  rw [e]
  subst h
  exact wU (by simp) (by omega) (by omega)
theorem valN_le8To (v : UInt64) : ∀ i, valN (le8To v i) = v.toNat % 2 ^ (8 * i)
  | 0 => by simp [le8To, valN, Nat.mod_one]
  | i + 1 => by
    rw [← le8To_next0, valN_snoc, valN_le8To v i, le8To_len, pow256]
    have e : (lowB v i).toNat = v.toNat / 2 ^ (8 * i) % 256 := by unfold lowB; rw [UInt8.toNat_ofNat']
    rw [e, show 8 * (i + 1) = 8 * i + 8 by omega, Nat.pow_add, show (2 : Nat) ^ 8 = 256 by decide, Nat.mod_mul, Nat.mul_comm (2 ^ (8 * i))]
theorem valN_le8 (v : UInt64) : valN (le8 v) = v.toNat := by
  unfold le8
  rw [valN_le8To]
  exact Nat.mod_eq_of_lt (by have := v.toNat_lt; simpa using this)
theorem valN_inj : ∀ (x y : List UInt8), x.length = y.length → valN x = valN y → x = y
  | [], [], _, _ => rfl
  | [], _ :: _, h, _ => by cases h
  | _ :: _, [], h, _ => by cases h
  | a :: x, b :: y, hl, h => by
    simp only [valN] at h
    have ha : a.toNat < 256 := a.toNat_lt
    have hb : b.toNat < 256 := b.toNat_lt
    have h1 : a.toNat = b.toNat := by omega
    have h2 : valN x = valN y := by omega
    rw [valN_inj x y (by simpa using hl) h2, UInt8.toNat_inj.1 h1]
theorem le8_valN {l : List UInt8} (h : l.length = 8) : le8 (UInt64.ofNat (valN l)) = l := by
  have hlt := valN_lt l
  rw [h] at hlt
  refine valN_inj _ _ (by rw [le8_len, h]) ?_
  rw [valN_le8, UInt64.toNat_ofNat_of_lt' (by simpa [UInt64.size] using hlt)]
end Go.Proofs.Ytldkjjnjdjfipaa
