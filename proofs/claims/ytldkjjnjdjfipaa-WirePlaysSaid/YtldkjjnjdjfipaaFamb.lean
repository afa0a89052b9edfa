/- Famb: the bytes of many letters, as one resource. -/
import Derived.Test.YtldkjjnjdjfipaaP19
import Derived.Test.YtldkjjnjdjfipaaRf2
namespace Go.Proofs.Ytldkjjnjdjfipaa
open Go Go.RowKit
set_option linter.unusedVariables false
set_option linter.unusedSimpArgs false
def fambF (ls : List Let) : List Nat := ls.flatMap fun x => if x.d.length = 0 then [] else [aB x.a]
theorem mem_fambF {ls : List Let} {b : Nat} : b ∈ fambF ls ↔ ∃ x ∈ ls, ¬ x.d.length = 0 ∧ b = aB x.a := by
  unfold fambF
  rw [List.mem_flatMap]
  constructor
  · rintro ⟨x, hx, hb⟩
    split at hb
    · cases hb
    · exact ⟨x, hx, by assumption, List.mem_singleton.1 hb⟩
  · rintro ⟨x, hx, h1, h2⟩
    exact ⟨x, hx, by rw [if_neg h1]; exact List.mem_singleton.2 h2⟩
theorem flB_len (l : List UInt8) : (l.flatMap byteV).length = l.length := by rw [fl_len byteV_len, Nat.mul_one]
def famb (ls : List Let) : Res :=
  ⟨fambF ls, fun w => ∀ x ∈ ls, Rds w x.a (x.d.flatMap byteV), fun w w' h hw x hx => rds_loc (hw x hx) fun hl => h _ (mem_fambF.2 ⟨x, hx, by rw [flB_len] at hl; omega, rfl⟩)⟩
section
variable {w0 : World} {D : List Nat} {L M N : List Res} {ls ls' : List Let}
theorem famb_rd (hp : Pick L (famb ls) M) {x : Let} (hx : x ∈ ls) : ∀ w, SH w0 D L w → Rds w x.a (x.d.flatMap byteV) := fun w hs => hs.get hp x hx
theorem famb_nil (w : World) (h : SH w0 D L w) : SH w0 D (famb [] :: L) w := by
  refine ⟨h.os, h.tape, h.output, h.size, h.old, ?_, ?_, ?_⟩
  · intro p hp
    rcases List.mem_cons.1 hp with rfl | hp
    · intro x hx; cases hx
    · exact h.ok p hp
  · intro p hp b hb
    rcases List.mem_cons.1 hp with rfl | hp
    · exact absurd hb (by simp [famb, fambF])
    · exact h.own p hp b hb
  · refine List.pairwise_cons.2 ⟨fun x hx b hb => ?_, h.disj⟩
    exact absurd hb (by simp [famb, fambF])
theorem famb_sub (h : ∀ x ∈ ls', x ∈ ls) : (famb ls).le (famb ls') :=
  ⟨fun b hb => by obtain ⟨x, hx, h1, h2⟩ := mem_fambF.1 hb; exact mem_fambF.2 ⟨x, h x hx, h1, h2⟩, fun w hw x hx => hw x (h x hx)⟩
theorem famb_push (x : Let) {c n : Nat} (hp : Pick L (osl x.a c n 1 5 (x.d.flatMap byteV)) M) (hq : Pick M (famb ls) N) (hs' : ∀ y ∈ ls', y = x ∨ y ∈ ls) : ∀ w, SH w0 D L w → SH w0 D (famb ls' :: N) w := fun w hs => by
  have h1 := hs.pick hp
  have h2 : SH w0 D (famb ls :: osl x.a c n 1 5 (x.d.flatMap byteV) :: N) w := (h1.perm ((hq.perm.cons _).trans (List.Perm.swap _ _ _)))
  have k1 := h2.ok _ List.mem_cons_self
  have k2 := h2.ok _ (List.mem_cons_of_mem _ List.mem_cons_self)
  refine SH.join h2 ?_ ?_
  · intro b hb
    obtain ⟨y, hy, h3, h4⟩ := mem_fambF.1 hb
    rcases hs' y hy with rfl | hy
    · subst h4
      exact .inr (osl_blk k2 (by rw [flB_len]; omega))
    · exact .inl (mem_fambF.2 ⟨y, hy, h3, h4⟩)
  · intro y hy
    rcases hs' y hy with rfl | hy
    · exact osl_rds k2
    · exact k1 y hy
end
end Go.Proofs.Ytldkjjnjdjfipaa
