/- P11c: small things for the walks. Plain, but for wpS_sh. -/
import Derived.Test.YtldkjjnjdjfipaaP11b
import Derived.Test.YtldkjjnjdjfipaaSlc
import Derived.Test.YtldkjjnjdjfipaaP13b
namespace Go.Proofs.Ytldkjjnjdjfipaa
open Go Go.RowKit
set_option linter.unusedVariables false
set_option linter.unusedSimpArgs false

theorem wpS_sh {P : Program} {w0 : World} {D : List Nat} {n : Nat} {r : Option Nat} {c : Code} {Q : Exit → List Nat → Fr → List Res → Prop} {ds : List Nat} {σ : Fr} {L L' : List Res} (he : ∀ w, SH w0 D L w → SH w0 D L' w) (h : wpS P w0 D n r c Q ds σ L') : wpS P w0 D n r c Q ds σ L :=
  fun a w hf hs => h a w hf (he w hs)
theorem uof {y : Nat} (h : y < 1000) : (UInt64.ofNat y).toNat = y := by
  rw [UInt64.toNat_ofNat']
  omega
theorem getD_out {al : List Bool} {i : Nat} (h : al.length ≤ i) : al.getD i default = false := by rw [List.getD_eq_getElem?_getD, List.getElem?_eq_none h]; rfl
end Go.Proofs.Ytldkjjnjdjfipaa
