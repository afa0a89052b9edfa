/- What an argument of a row is, when it is an array of bytes. -/
import Derived.Test.YtldkjjnjdjfipaaRow
import Derived.Test.YtldkjjnjdjfipaaRf2
namespace Go.Proofs.Ytldkjjnjdjfipaa
open Go Go.RowKit Go.ChangeShapes Go.WideShapes Go.ChangeAt
set_option linter.unusedVariables false
set_option linter.unusedSimpArgs false
theorem arg_bytes {P : Program} {H : Type} {enc : TypeId × Value → H} {w : World} {base : Nat} {spare : Nat → Bool} {held : Bool} {r : Reach} {b0 : Nat} {t e : TypeId} {n : Nat} {v : Value} {d : DataW H} {ps : List MemPlace}
    (ht : P.underlying t = some (.array n e)) (he : P.underlying e = some (.int .u8)) (hk : P.cellsOf e = 1) (hkt : P.cellsOf t = n) (hval : Value.okWide P w r b0 t v) (hd : DataW.Trod enc P w base spare held t v d ps) :
    ∃ x : List UInt8, v = .agg (x.flatMap byteV).toArray ∧ x.length = n := by
  simp only [Value.okWide, ht] at hval
  obtain ⟨cs, rfl, hcs, -⟩ := hval
  obtain ⟨fuel, hf⟩ := hd
  obtain ⟨xs, m, -, -, hlen, hxl, hall⟩ := DataW.trod_array ht hf
  simp only [Value.cells] at hlen hall
  rw [hkt] at hlen
  have key : ∀ (j : Nat), j ≤ n → ∃ x : List UInt8, cs.toList.take j = x.flatMap byteV ∧ x.length = j := fun j => by
    induction j with
    | zero => intro _; exact ⟨[], by simp, rfl⟩
    | succ j ih =>
      intro hj
      obtain ⟨x, h1, h2⟩ := ih (by omega)
      have h3 := hall j (by omega)
      rw [hk, Nat.mul_one] at h3
      have hx : ∃ y, xs[j]? = some y := ⟨xs[j], List.getElem?_eq_getElem (by omega)⟩
      obtain ⟨y, hy⟩ := hx
      rw [hy] at h3
      obtain ⟨b, hb⟩ := opn_u8 he enc w base spare held m _ _ h3
      refine ⟨x ++ [b], ?_, by simp [h2]⟩
      have e1 : cs.toList.take (j + 1) = cs.toList.take j ++ (cs.toList.drop j).take 1 := by
        rw [← List.take_add]
      rw [e1, h1, hb]
      simp
  obtain ⟨x, h1, h2⟩ := key n (Nat.le_refl _)
  refine ⟨x, ?_, h2⟩
  rw [← h1, List.take_of_length_le (by omega)]
end Go.Proofs.Ytldkjjnjdjfipaa
