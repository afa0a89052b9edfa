/- P14g: the sort keeps all that is there. Plain. -/
import Derived.Test.YtldkjjnjdjfipaaP14b
namespace Go.Proofs.Ytldkjjnjdjfipaa
open Go Go.RowKit
set_option linter.unusedVariables false
set_option linter.unusedSimpArgs false
theorem swp_perm (sq : Bool) (x : List Rec) (i : Nat) (h : i + 1 < x.length) : (swp sq i x).Perm x := by
  by_cases ha : ahd sq (x.getD (i + 1) default) (x.getD i default) = true
  · rw [swp_split sq x i h ha]
    conv => rhs; rw [split_at2 x i h]
    exact List.Perm.append_left _ (List.Perm.swap _ _ _)
  · unfold swp
    rw [if_neg ha]
theorem srow_perm (sq : Bool) (r n : Nat) : ∀ (i : Nat) (x : List Rec), x.length = n → (srow sq r n i x).Perm x := by
  intro i x
  induction i, x using srow.induct (sq := sq) (r := r) (n := n) with
  | case1 i x h ih =>
    intro hx
    simp only [dite_eq_ite] at ih
    have hl : (if i % 2 = r % 2 then swp sq i x else x).length = n := by
      split
      · rw [swp_len]; exact hx
      · exact hx
    rw [srow_next h]
    refine (ih hl).trans ?_
    split
    · exact swp_perm sq x i (by omega)
    · exact .refl _
  | case2 i x h => intro hx; rw [srow_end h]
theorem srows_perm (sq : Bool) (n : Nat) : ∀ (t : Nat) (x : List Rec), x.length = n → (srows sq n t x).Perm x := by
  intro t x
  induction t, x using srows.induct (sq := sq) (n := n) with
  | case1 t x h ih =>
    intro hx
    rw [srows_next h]
    exact (ih (by rw [srow_len]; exact hx)).trans (srow_perm sq t n 0 x hx)
  | case2 t x h => intro hx; rw [srows_done (.inl h)]
theorem msort_perm (sq : Bool) (l : List Rec) : (msort sq l).Perm l := srows_perm sq _ 0 l rfl
end Go.Proofs.Ytldkjjnjdjfipaa
