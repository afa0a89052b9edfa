/- P15: values of one key, folded along. Plain. -/
import Derived.Test.YtldkjjnjdjfipaaWVm2
namespace Go.Proofs.Ytldkjjnjdjfipaa
open Go Go.RowKit
set_option linter.unusedVariables false
set_option linter.unusedSimpArgs false

/-- one record behind a carry: what comes out, what is carried on -/
def cstp (b : Bool) (f g : List Opc) (c r : Rec) : Rec × Rec :=
  if r.dead = false ∧ c.dead = false ∧ r.key = c.key then (deadR, ⟨c.dead, c.key, doneC b f c.value r.value, c.seq⟩)
  else (if c.dead = false then ⟨false, c.key, doneC b g c.value c.key, 0⟩ else deadR, if r.dead = false then ⟨false, r.key, r.value, 0⟩ else deadR)
def run15 (b : Bool) (f g : List Opc) (s : List Rec × Rec) (l : List Rec) : List Rec × Rec := l.foldl (fun s r => (s.1 ++ [(cstp b f g s.2 r).1], (cstp b f g s.2 r).2)) s
def normC (c : Rec) : Rec := if c.dead = false then ⟨false, c.key, c.value, 0⟩ else deadR
def stepO (b : Bool) (f g : List Opc) (c : Rec) (l : List Rec) : List Rec := if b = true then (run15 b f g ([], c) l).1 else []
def stepC (b : Bool) (f g : List Opc) (c : Rec) (l : List Rec) : Rec := if b = true then normC (run15 b f g ([], c) l).2 else deadR
theorem cstp_1 {b : Bool} {f g : List Opc} {c r : Rec} (h1 : r.dead = false) (h2 : c.dead = false) (h3 : r.key = c.key) : cstp b f g c r = (deadR, ⟨c.dead, c.key, doneC b f c.value r.value, c.seq⟩) := by unfold cstp; rw [if_pos ⟨h1, h2, h3⟩]
theorem cstp_a {b : Bool} {f g : List Opc} {c r : Rec} (h1 : r.dead = true) (h2 : c.dead = true) : cstp b f g c r = (deadR, deadR) := by unfold cstp; simp [h1, h2]
theorem cstp_b {b : Bool} {f g : List Opc} {c r : Rec} (h1 : r.dead = true) (h2 : c.dead = false) : cstp b f g c r = (⟨false, c.key, doneC b g c.value c.key, 0⟩, deadR) := by unfold cstp; simp [h1, h2]
theorem cstp_c {b : Bool} {f g : List Opc} {c r : Rec} (h1 : r.dead = false) (h2 : c.dead = true) : cstp b f g c r = (deadR, ⟨false, r.key, r.value, 0⟩) := by unfold cstp; simp [h1, h2]
theorem cstp_d {b : Bool} {f g : List Opc} {c r : Rec} (h1 : r.dead = false) (h2 : c.dead = false) (h3 : ¬ r.key = c.key) : cstp b f g c r = (⟨false, c.key, doneC b g c.value c.key, 0⟩, ⟨false, r.key, r.value, 0⟩) := by unfold cstp; simp [h1, h2, h3]
theorem run15_app (b : Bool) (f g : List Opc) (s : List Rec × Rec) (l z : List Rec) : run15 b f g s (l ++ z) = run15 b f g (run15 b f g s l) z := List.foldl_append
theorem run15_len (b : Bool) (f g : List Opc) (l : List Rec) : ∀ s : List Rec × Rec, (run15 b f g s l).1.length = s.1.length + l.length := by
  induction l with
  | nil => intro s; rfl
  | cons r l ih =>
    intro s
    show (run15 b f g (s.1 ++ [(cstp b f g s.2 r).1], (cstp b f g s.2 r).2) l).1.length = _
    rw [ih]
    simp
    omega
theorem run15_step {b : Bool} {f g : List Opc} {s : List Rec × Rec} {l : List Rec} {i : Nat} {os : List Rec} {cq o c2 : Rec} (h : (os, cq) = run15 b f g s (l.take i)) (hi : i < l.length) (hs : cstp b f g cq (l.getD i default) = (o, c2)) : (os ++ [o], c2) = run15 b f g s (l.take (i + 1)) := by
  rw [List.take_succ_eq_append_getElem hi, run15_app, ← h]
  rw [List.getD_eq_getElem?_getD, List.getElem?_eq_getElem hi, Option.getD_some] at hs
  show _ = (os ++ [(cstp b f g cq l[i]).1], (cstp b f g cq l[i]).2)
  rw [hs]
theorem stepO_len {b : Bool} {f g : List Opc} {c : Rec} {l : List Rec} (h : b = true) : (stepO b f g c l).length = l.length := by
  unfold stepO
  rw [if_pos h, run15_len]
  simp
theorem stepO_le {b : Bool} {f g : List Opc} {c : Rec} {l : List Rec} : (stepO b f g c l).length ≤ l.length := by
  unfold stepO
  split
  · rw [run15_len]; simp
  · simp
end Go.Proofs.Ytldkjjnjdjfipaa
