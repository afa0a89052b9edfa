/- P15c: records that are cut anywhere. Plain. -/
import Derived.Test.YtldkjjnjdjfipaaP15
namespace Go.Proofs.Ytldkjjnjdjfipaa
open Go Go.RowKit
set_option linter.unusedVariables false
set_option linter.unusedSimpArgs false
theorem norm_norm (c : Rec) : normC (normC c) = normC c := by
  unfold normC
  split
  · rfl
  · rw [if_neg (by simp [deadR])]
theorem norm_dead {c c' : Rec} (h : normC c = normC c') : c.dead = c'.dead := by
  unfold normC at h
  cases hc : c.dead <;> cases hc' : c'.dead <;> simp [hc, hc', deadR] at h <;> rfl
theorem norm_kv {c c' : Rec} (h : normC c = normC c') (hd : c.dead = false) : c.key = c'.key ∧ c.value = c'.value := by
  have hd' : c'.dead = false := by rw [← norm_dead h]; exact hd
  unfold normC at h
  rw [if_pos hd, if_pos hd'] at h
  injection h with h1 h2 h3 h4
  exact ⟨h2, h3⟩
theorem cstp_eqv {b : Bool} {f g : List Opc} {c c' r : Rec} (h : normC c = normC c') : (cstp b f g c r).1 = (cstp b f g c' r).1 ∧ normC (cstp b f g c r).2 = normC (cstp b f g c' r).2 := by
  have hd := norm_dead h
  cases hc : c.dead
  · have hc' : c'.dead = false := by rw [← hd]; exact hc
    obtain ⟨hk, hv⟩ := norm_kv h hc
    cases hr : r.dead
    · by_cases e : r.key = c.key
      · rw [cstp_1 hr hc e, cstp_1 hr hc' (by rw [← hk]; exact e), hk, hv, hc, hc']
        exact ⟨rfl, rfl⟩
      · rw [cstp_d hr hc e, cstp_d hr hc' (by rw [← hk]; exact e), hk, hv]
        exact ⟨rfl, rfl⟩
    · rw [cstp_b hr hc, cstp_b hr hc', hk, hv]
      exact ⟨rfl, rfl⟩
  · have hc' : c'.dead = true := by rw [← hd]; exact hc
    cases hr : r.dead
    · rw [cstp_c hr hc, cstp_c hr hc']
      exact ⟨rfl, rfl⟩
    · rw [cstp_a hr hc, cstp_a hr hc']
      exact ⟨rfl, rfl⟩
theorem run_eqv {b : Bool} {f g : List Opc} (l : List Rec) : ∀ (o : List Rec) (c c' : Rec), normC c = normC c' → (run15 b f g (o, c) l).1 = (run15 b f g (o, c') l).1 ∧ normC (run15 b f g (o, c) l).2 = normC (run15 b f g (o, c') l).2 := by
  induction l with
  | nil => intro o c c' h; exact ⟨rfl, h⟩
  | cons r l ih =>
    intro o c c' h
    have h2 := cstp_eqv (b := b) (f := f) (g := g) (r := r) h
    show (run15 b f g (o ++ [(cstp b f g c r).1], (cstp b f g c r).2) l).1 = (run15 b f g (o ++ [(cstp b f g c' r).1], (cstp b f g c' r).2) l).1 ∧ normC (run15 b f g (o ++ [(cstp b f g c r).1], (cstp b f g c r).2) l).2 = normC (run15 b f g (o ++ [(cstp b f g c' r).1], (cstp b f g c' r).2) l).2
    rw [h2.1]
    exact ih _ _ _ h2.2
theorem run_pre {b : Bool} {f g : List Opc} (l : List Rec) : ∀ (o : List Rec) (c : Rec), run15 b f g (o, c) l = (o ++ (run15 b f g ([], c) l).1, (run15 b f g ([], c) l).2) := by
  induction l with
  | nil => intro o c; simp [run15]
  | cons r l ih =>
    intro o c
    have h1 : run15 b f g (o, c) (r :: l) = run15 b f g (o ++ [(cstp b f g c r).1], (cstp b f g c r).2) l := rfl
    have h2 : run15 b f g ([], c) (r :: l) = run15 b f g ([(cstp b f g c r).1], (cstp b f g c r).2) l := rfl
    rw [h1, h2, ih, ih [(cstp b f g c r).1]]
    simp
theorem cut_step {b : Bool} (hb : b = true) {f g : List Opc} {l xs : List Rec} {cq cr : Rec} {p n : Nat} (h1 : run15 b f g ([], deadR) (l.take p) = (xs, cq)) (h2 : cr = normC cq) :
    run15 b f g ([], deadR) (l.take (p + n)) = (xs ++ stepO b f g cr ((l.drop p).take n), (run15 b f g ([], cq) ((l.drop p).take n)).2) ∧ stepC b f g cr ((l.drop p).take n) = normC (run15 b f g ([], cq) ((l.drop p).take n)).2 := by
  have h3 := run_eqv (b := b) (f := f) (g := g) ((l.drop p).take n) [] cr cq (by rw [h2, norm_norm])
  refine ⟨?_, ?_⟩
  · rw [List.take_add, run15_app, h1, run_pre]
    unfold stepO
    rw [if_pos hb, h3.1]
  · unfold stepC
    rw [if_pos hb, h3.2]
theorem cut_end {b : Bool} (hb : b = true) {f g : List Opc} {l xs : List Rec} {cq cr : Rec} {p : Nat} (h1 : run15 b f g ([], deadR) (l.take p) = (xs, cq)) (h2 : cr = normC cq) :
    xs ++ stepO b f g cr (l.drop p) = stepO b f g (Rec.mk true 0 0 0) l ∧ stepC b f g cr (l.drop p) = stepC b f g (Rec.mk true 0 0 0) l := by
  have h3 := cut_step hb (n := (l.drop p).length) h1 h2
  rw [List.take_of_length_le (Nat.le_refl _)] at h3
  rw [List.take_of_length_le (by rw [List.length_drop]; omega)] at h3
  refine ⟨?_, ?_⟩
  · show _ = stepO b f g deadR l
    unfold stepO
    rw [if_pos hb, if_pos hb, h3.1]
    unfold stepO
    rw [if_pos hb]
  · show _ = stepC b f g deadR l
    rw [h3.2]
    unfold stepC
    rw [if_pos hb, h3.1]
end Go.Proofs.Ytldkjjnjdjfipaa
