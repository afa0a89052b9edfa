/- P15d: folding along, by the reference. Plain. -/
import Derived.Test.YtldkjjnjdjfipaaP15c
namespace Go.Proofs.Ytldkjjnjdjfipaa
open Go Go.RowKit
set_option linter.unusedVariables false
set_option linter.unusedSimpArgs false
section
variable {b : Bool} {f g : List Opc} {s : List Rec × Rec} {l os : List Rec} {cx cq : Rec} {i : Nat}
theorem rr_any {o c2 c3 : Rec} (h1 : run15 b f g s (l.take i) = (os, cx)) (hi : i < l.length) (hn : normC cx = normC cq) (hs : cstp b f g cq (l.getD i default) = (o, c2)) (he : normC c2 = normC c3) :
    run15 b f g s (l.take (i + 1)) = (os ++ [o], (cstp b f g cx (l.getD i default)).2) ∧ normC (cstp b f g cx (l.getD i default)).2 = normC c3 := by
  have h2 := cstp_eqv (b := b) (f := f) (g := g) (r := l.getD i default) hn
  rw [hs] at h2
  refine ⟨?_, h2.2.trans he⟩
  refine (run15_step h1.symm hi (o := o) (c2 := (cstp b f g cx (l.getD i default)).2) ?_).symm
  rw [show o = (cstp b f g cx (l.getD i default)).1 from h2.1.symm]
theorem rr_1 (h1 : run15 b f g s (l.take i) = (os, cx)) (hi : i < l.length) (hn : normC cx = normC cq) (k1 : (l.getD i default).dead = false) (k2 : cq.dead = false) (k3 : (l.getD i default).key = cq.key) :
    run15 b f g s (l.take (i + 1)) = (os ++ [deadR], (cstp b f g cx (l.getD i default)).2) ∧ normC (cstp b f g cx (l.getD i default)).2 = normC (Rec.mk false cq.key (doneC b f cq.value (l.getD i default).value) 0) :=
  rr_any h1 hi hn (cstp_1 k1 k2 k3) (by unfold normC; simp [k2])
theorem rr_a (h1 : run15 b f g s (l.take i) = (os, cx)) (hi : i < l.length) (hn : normC cx = normC cq) (k1 : (l.getD i default).dead = true) (k2 : cq.dead = true) :
    run15 b f g s (l.take (i + 1)) = (os ++ [deadR], (cstp b f g cx (l.getD i default)).2) ∧ normC (cstp b f g cx (l.getD i default)).2 = normC deadR := rr_any h1 hi hn (cstp_a k1 k2) rfl
theorem rr_b (h1 : run15 b f g s (l.take i) = (os, cx)) (hi : i < l.length) (hn : normC cx = normC cq) (k1 : (l.getD i default).dead = true) (k2 : cq.dead = false) :
    run15 b f g s (l.take (i + 1)) = (os ++ [Rec.mk false cq.key (doneC b g cq.value cq.key) 0], (cstp b f g cx (l.getD i default)).2) ∧ normC (cstp b f g cx (l.getD i default)).2 = normC deadR := rr_any h1 hi hn (cstp_b k1 k2) rfl
theorem rr_c (h1 : run15 b f g s (l.take i) = (os, cx)) (hi : i < l.length) (hn : normC cx = normC cq) (k1 : (l.getD i default).dead = false) (k2 : cq.dead = true) :
    run15 b f g s (l.take (i + 1)) = (os ++ [deadR], (cstp b f g cx (l.getD i default)).2) ∧ normC (cstp b f g cx (l.getD i default)).2 = normC (Rec.mk false (l.getD i default).key (l.getD i default).value 0) := rr_any h1 hi hn (cstp_c k1 k2) rfl
theorem rr_d (h1 : run15 b f g s (l.take i) = (os, cx)) (hi : i < l.length) (hn : normC cx = normC cq) (k1 : (l.getD i default).dead = false) (k2 : cq.dead = false) (k3 : ¬ (l.getD i default).key = cq.key) :
    run15 b f g s (l.take (i + 1)) = (os ++ [Rec.mk false cq.key (doneC b g cq.value cq.key) 0], (cstp b f g cx (l.getD i default)).2) ∧ normC (cstp b f g cx (l.getD i default)).2 = normC (Rec.mk false (l.getD i default).key (l.getD i default).value 0) := rr_any h1 hi hn (cstp_d k1 k2 k3) rfl
end
end Go.Proofs.Ytldkjjnjdjfipaa
