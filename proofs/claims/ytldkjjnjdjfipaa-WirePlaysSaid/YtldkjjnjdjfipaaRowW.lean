/- What an argument of a row is, when it is a list of a wire's calls. -/
import Derived.Test.YtldkjjnjdjfipaaRowG
import Derived.Test.YtldkjjnjdjfipaaP19g
namespace Go.Proofs.Ytldkjjnjdjfipaa
open Go Go.RowKit Go.ChangeShapes Go.WideShapes Go.ChangeAt
set_option linter.unusedVariables false
set_option linter.unusedSimpArgs false
set_option maxRecDepth 10000
/-- Cells that read as something of type t are E's of a thing of which Q holds. -/
def OpnW {R : Type} (P : Program) (E : R → List Value) (Q : World → R → Prop) (t : TypeId) : Prop :=
  ∀ {H : Type} (enc : TypeId × Value → H) (w : World) (base : Nat) (spare : Nat → Bool) (held : Bool) (fuel : Nat) (cs : List Value) (x : DataW H × List MemPlace),
    DataW.trod enc P w base spare held fuel t cs = some x → ∃ r, cs = E r ∧ Q w r
section
variable {P : Program} {H : Type} {enc : TypeId × Value → H} {w : World} {base : Nat} {spare : Nat → Bool} {held : Bool}
theorem arg_sliceW {R : Type} {E : R → List Value} {Q : World → R → Prop} {e : TypeId} {k : Nat} {r : Reach} {b0 : Nat} {t : TypeId} {v : Value} {d : DataW H} {ps : List MemPlace} (ht : P.underlying t = some (.slice e)) (ho : OpnW P E Q e) (hz : ∀ x, (E x).length = k) (hk : P.cellsOf e = k)
    (hval : Value.okWide P w r b0 t v) (hd : DataW.Trod enc P w base spare held t v d ps) :
    ∃ (a : Option Addr) (n c : Nat) (l : List R), v = .slice a n c ∧ l.length = n ∧ n ≤ c ∧ c ≤ maxLen ∧ Rds w a (l.flatMap E) ∧ ∀ x ∈ l, Q w x := by
  obtain ⟨a, n, c, rfl⟩ := okWide_slice ht hval
  obtain ⟨fuel, hf⟩ := hd
  rcases Go.Deep.open_slice ht hf with ⟨hcs, _⟩ | ⟨a', len, cap, m, fu, D, Pl, hcs, hb, hl, hm, hmm, hx, hi⟩
  · simp [Value.cells] at hcs
    obtain ⟨rfl, rfl, rfl⟩ := hcs
    exact ⟨none, 0, 0, [], rfl, rfl, Nat.le_refl _, Nat.zero_le _, Rds.nil _ _, fun x hx => by cases hx⟩
  · simp [Value.cells] at hcs
    obtain ⟨rfl, rfl, rfl⟩ := hcs
    have hmn : n ≤ m := by split at hmm <;> omega
    have hall : ∀ i, i < n → ∃ x : R, w.cells? base (a'.add (i * k)) k = some (E x) ∧ (E x).length = k ∧ Q w x := fun i hin => by
      obtain ⟨cs', hc, ht'⟩ := hi i (by omega)
      rw [hk] at hc
      obtain ⟨x, rfl, hq⟩ := ho _ _ _ _ _ _ _ _ ht'
      exact ⟨x, hc, (World.cells?_some hc).2.1, hq⟩
    obtain ⟨l, hlen, hq, hget⟩ : ∃ l : List R, l.length = n ∧ (∀ x ∈ l, Q w x) ∧ ∀ i (h : i < n), ∃ x, l[i]? = some x ∧ w.cells? base (a'.add (i * k)) k = some (E x) ∧ (E x).length = k := by
      clear hmm hx hi hf hl hmn hval
      induction n with
      | zero => exact ⟨[], rfl, (fun x hx => by cases hx), fun i h => absurd h (by omega)⟩
      | succ n ih =>
        obtain ⟨l, h1, h3, h2⟩ := ih (fun i hi => hall i (by omega))
        obtain ⟨x, hx, hxl, hxq⟩ := hall n (by omega)
        refine ⟨l ++ [x], by simp [h1], fun y hy => ?_, fun i hi => ?_⟩
        · rcases List.mem_append.1 hy with hy | hy
          · exact h3 y hy
          · rw [List.mem_singleton] at hy
            subst hy
            exact hxq
        · by_cases e : i < n
          · rw [List.getElem?_append_left (by omega)]; exact h2 i e
          · obtain rfl : i = n := by omega
            exact ⟨x, by rw [← h1]; simp, hx, hxl⟩
    refine ⟨_, _, _, l, rfl, hlen, hl, hm, ?_, hq⟩
    intro j u hj
    obtain ⟨i, f, x, rfl, hfk, hx, hu⟩ := fl_split hz l j hj
    have hin : i < n := by rw [← hlen]; exact (List.getElem?_eq_some_iff.1 hx).1
    obtain ⟨x', hx', hc, -⟩ := hget i hin
    obtain rfl : x' = x := by rw [hx] at hx'; exact (Option.some.inj hx').symm
    have hcell := (World.cells?_some hc).2.2 f hfk
    rw [hu] at hcell
    obtain ⟨b, off, spot⟩ := a'
    have hspot : spot = none := by
      obtain ⟨x0, -, hc0, hl0⟩ := hget 0 (by omega)
      have h0 := (World.cells?_some hc0).2.2 0 (by omega)
      rw [List.getElem?_eq_getElem (by omega)] at h0
      simpa [Addr.add] using World.cell?_spot h0
    subst hspot
    refine ⟨rfl, ?_⟩
    simp only [aB, aO]
    rw [← hcell, Go.WideShapes.add_plain, Go.WideShapes.add_plain, Nat.add_assoc]
end
theorem cells138 : Try.prog.cellsOf 138 = 4 := by kernel_rfl
theorem cells61 : Try.prog.cellsOf 61 = 1 := by kernel_rfl
theorem cells5 : Try.prog.cellsOf 5 = 1 := by kernel_rfl
theorem opn_wop : OpnW Try.prog wopV (fun w x => x.b.length = x.m ∧ Rds w x.a (x.b.flatMap byteV)) 138 := fun enc w base spare held fuel cs x h => by
  obtain ⟨xs, n, -, -, hlen, hxl, hf⟩ := DataW.trod_struct Try.underlying138 h
  rw [cells138] at hlen
  match cs, hlen with
  | [c0, c1, c2, c3], _ =>
    match xs, hxl with
    | [y0, y1, y2, y3], _ =>
      obtain ⟨r0, e0⟩ := opn_i64 Try.underlying3 enc w base spare held n _ _ (hf 0 _ rfl)
      obtain ⟨r1, e1⟩ := opn_i64 Try.underlying3 enc w base spare held n _ _ (hf 1 _ rfl)
      obtain ⟨r2, e2⟩ := opn_i64 Try.underlying3 enc w base spare held n _ _ (hf 2 _ rfl)
      obtain ⟨a3, n3, d3, l3, e3, g3, m3, k3, r3⟩ := cell_slice Try.underlying61 (opn_u8 Try.underlying5) byteV_len cells5 (by decide) (hf 3 _ rfl)
      simp [cells3, cells61] at e0 e1 e2 e3
      subst e0 e1 e2 e3
      exact ⟨⟨r0.toInt, r1.toInt, r2.toInt, a3, n3, d3, l3⟩, rfl, g3, r3⟩
end Go.Proofs.Ytldkjjnjdjfipaa
