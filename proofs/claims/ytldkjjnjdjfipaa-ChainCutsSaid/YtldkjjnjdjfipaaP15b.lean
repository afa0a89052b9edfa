/- P15b: what the laws of folding along say. Plain. -/
import Derived.Test.YtldkjjnjdjfipaaP15
import Derived.Test.YtldkjjnjdjfipaaWLaw11s
namespace Go.Proofs.Ytldkjjnjdjfipaa
open Go Go.RowKit
set_option linter.unusedVariables false
set_option linter.unusedSimpArgs false

def atL (l : List Int64) (i : Nat) : Int64 := if i < l.length then l.getD i default else 1
def plU (ks : List Int) (dd : List Bool) (vs : List Int64) (j : Nat) : Rec := if dd.getD j default = true then ⟨true, 0, 0, 0⟩ else ⟨false, (UInt64.ofNat (u64of (ks.getD j default) % 3)).toInt64, atL vs j, Int64.ofNat j⟩
def plL (ks : List Int) (dd : List Bool) (vs : List Int64) (i : Nat) : List Rec := (List.range i).map (plU ks dd vs)
theorem plL_next (ks : List Int) (dd : List Bool) (vs : List Int64) (i : Nat) : plL ks dd vs i ++ [plU ks dd vs i] = plL ks dd vs (i + 1) := by simp [plL, List.range_succ]
theorem pl_t {xs : List Rec} {ks : List Int} {dd : List Bool} {vs : List Int64} {i : Nat} (h : xs = plL ks dd vs i) (hd : dd.getD i default = true) : xs ++ [Rec.mk true 0 0 0] = plL ks dd vs (i + 1) := by
  subst h
  rw [← plL_next]
  unfold plU
  rw [if_pos hd]
theorem pl_f {xs : List Rec} {ks : List Int} {dd : List Bool} {vs : List Int64} {i : Nat} (h : xs = plL ks dd vs i) (hd : dd.getD i default = false) : xs ++ [Rec.mk false (UInt64.ofNat (u64of (ks.getD i default) % 3)).toInt64 (atL vs i) (Int64.ofNat i)] = plL ks dd vs (i + 1) := by
  subst h
  rw [← plL_next]
  unfold plU
  rw [if_neg (by rw [hd]; decide)]
def sig (r : Rec) : Bool × Int64 × Int64 := (r.dead, r.key, r.seq)
theorem sig_dead {a b : Rec} (h : sig a = sig b) : a.dead = b.dead := congrArg Prod.fst h
theorem sig_key {a b : Rec} (h : sig a = sig b) : a.key = b.key := congrArg (fun z => z.2.1) h
theorem sig_seq {a b : Rec} (h : sig a = sig b) : a.seq = b.seq := congrArg (fun z => z.2.2) h
theorem cstp_rel {b : Bool} {f g : List Opc} {c c' r r' : Rec} (h1 : c.dead = c'.dead) (h2 : c.key = c'.key) (h3 : r.dead = r'.dead) (h4 : r.key = r'.key) :
    sig (cstp b f g c r).1 = sig (cstp b f g c' r').1 ∧ (cstp b f g c r).1.seq = 0 ∧ (cstp b f g c r).2.dead = (cstp b f g c' r').2.dead ∧ (cstp b f g c r).2.key = (cstp b f g c' r').2.key := by
  unfold cstp
  rw [← h1, ← h2, ← h3, ← h4]
  by_cases e : r.dead = false ∧ c.dead = false ∧ r.key = c.key
  · rw [if_pos e, if_pos e]
    exact ⟨rfl, rfl, rfl, rfl⟩
  · rw [if_neg e, if_neg e]
    by_cases e1 : c.dead = false <;> by_cases e2 : r.dead = false <;> simp [e1, e2, sig, deadR, h2, h4]
theorem run_rel {b : Bool} {f g : List Opc} (ks : List Int) (dd : List Bool) (vs os : List Int64) (i : Nat) :
    (run15 b f g ([], deadR) (plL ks dd vs i)).1.map sig = (run15 b f g ([], deadR) (plL ks dd os i)).1.map sig ∧ (∀ r ∈ (run15 b f g ([], deadR) (plL ks dd vs i)).1, r.seq = 0) ∧
    (run15 b f g ([], deadR) (plL ks dd vs i)).2.dead = (run15 b f g ([], deadR) (plL ks dd os i)).2.dead ∧ (run15 b f g ([], deadR) (plL ks dd vs i)).2.key = (run15 b f g ([], deadR) (plL ks dd os i)).2.key := by
  induction i with
  | zero =>
    refine ⟨rfl, ?_, rfl, rfl⟩
    intro r h
    exact absurd h (by simp [run15, plL])
  | succ i ih =>
    rw [← plL_next, ← plL_next, run15_app, run15_app]
    generalize run15 b f g ([], deadR) (plL ks dd vs i) = s at *
    generalize run15 b f g ([], deadR) (plL ks dd os i) = t at *
    have hu : (plU ks dd vs i).dead = (plU ks dd os i).dead ∧ (plU ks dd vs i).key = (plU ks dd os i).key := by unfold plU; split <;> exact ⟨rfl, rfl⟩
    have h := cstp_rel (b := b) (f := f) (g := g) ih.2.2.1 ih.2.2.2 hu.1 hu.2
    refine ⟨?_, ?_, h.2.2.1, h.2.2.2⟩
    · show (s.1 ++ [_]).map sig = (t.1 ++ [_]).map sig
      rw [List.map_append, List.map_append, ih.1]
      exact congrArg (fun z => t.1.map sig ++ [z]) h.1
    · intro r hr
      rcases List.mem_append.1 hr with h5 | h5
      · exact ih.2.1 r h5
      · rw [List.mem_singleton] at h5
        rw [h5]
        exact h.2.1
theorem norm_rel {c c' : Rec} (h1 : c.dead = c'.dead) (h2 : c.key = c'.key) : (normC c).dead = (normC c').dead ∧ (normC c).key = (normC c').key := by
  unfold normC
  rw [← h1]
  split
  · exact ⟨rfl, h2⟩
  · exact ⟨rfl, rfl⟩
theorem pl_c {b : Bool} (hb : b = true) {f g : List Opc} {ks : List Int} {dd : List Bool} {vs os : List Int64} {i : Nat} {xs ys : List Rec} (hx : xs = plL ks dd vs i) (hy : ys = plL ks dd os i) :
    (stepC b f g (Rec.mk true 0 0 0) xs).dead = (stepC b f g (Rec.mk true 0 0 0) ys).dead ∧ (stepC b f g (Rec.mk true 0 0 0) xs).key = (stepC b f g (Rec.mk true 0 0 0) ys).key := by
  subst hx hy
  unfold stepC
  rw [if_pos hb, if_pos hb]
  have h := run_rel (b := b) (f := f) (g := g) ks dd vs os i
  exact norm_rel h.2.2.1 h.2.2.2
theorem pl_o {b : Bool} (hb : b = true) {f g : List Opc} {ks : List Int} {dd : List Bool} {vs os : List Int64} {i j : Nat} {xs ys : List Rec} (hx : xs = plL ks dd vs i) (hy : ys = plL ks dd os i) (hj : j < (stepO b f g (Rec.mk true 0 0 0) xs).length) :
    sig ((stepO b f g (Rec.mk true 0 0 0) xs).getD j default) = sig ((stepO b f g (Rec.mk true 0 0 0) ys).getD j default) ∧ ((stepO b f g (Rec.mk true 0 0 0) xs).getD j default).seq = 0 := by
  subst hx hy
  have h := run_rel (b := b) (f := f) (g := g) ks dd vs os i
  unfold stepO at *
  rw [if_pos hb] at hj ⊢
  rw [if_pos hb]
  change j < (run15 b f g ([], deadR) _).1.length at hj
  show sig ((run15 b f g ([], deadR) (plL ks dd vs i)).1.getD j default) = sig ((run15 b f g ([], deadR) (plL ks dd os i)).1.getD j default) ∧ ((run15 b f g ([], deadR) (plL ks dd vs i)).1.getD j default).seq = 0
  generalize (run15 b f g ([], deadR) (plL ks dd vs i)).1 = o at *
  generalize (run15 b f g ([], deadR) (plL ks dd os i)).1 = q at *
  have hl : o.length = q.length := by have := congrArg List.length h.1; simpa using this
  refine ⟨?_, h.2.1 _ ?_⟩
  · have h6 := congrArg (fun z => z[j]?) h.1
    simp only [List.getElem?_map] at h6
    rw [List.getElem?_eq_getElem hj, List.getElem?_eq_getElem (by omega)] at h6
    rw [List.getD_eq_getElem?_getD, List.getD_eq_getElem?_getD, List.getElem?_eq_getElem hj, List.getElem?_eq_getElem (by omega)]
    exact Option.some.inj h6
  · rw [List.getD_eq_getElem?_getD, List.getElem?_eq_getElem hj]
    exact List.getElem_mem hj
end Go.Proofs.Ytldkjjnjdjfipaa
