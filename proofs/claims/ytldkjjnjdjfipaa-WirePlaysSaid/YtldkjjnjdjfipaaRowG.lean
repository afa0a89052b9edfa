/- What an argument of a row is, when it is a program or a pair. -/
import Derived.Test.YtldkjjnjdjfipaaRowP
import Derived.Test.YtldkjjnjdjfipaaP11
namespace Go.Proofs.Ytldkjjnjdjfipaa
open Go Go.RowKit Go.ChangeShapes Go.WideShapes Go.ChangeAt
set_option linter.unusedVariables false
set_option linter.unusedSimpArgs false
set_option maxRecDepth 10000
section
variable {P : Program} {H : Type} {enc : TypeId × Value → H} {w : World} {base : Nat} {spare : Nat → Bool} {held : Bool}
/-- a slice within a struct that came in -/
theorem cell_slice {R : Type} {E : R → List Value} {e : TypeId} {k : Nat} {t : TypeId} {cs : List Value} {fuel : Nat} {x : DataW H × List MemPlace} (ht : P.underlying t = some (.slice e)) (ho : Opn P E e) (hz : ∀ x, (E x).length = k) (hk : P.cellsOf e = k) (hk0 : 0 < k)
    (hf : DataW.trod enc P w base spare held fuel t cs = some x) :
    ∃ (a : Option Addr) (n c : Nat) (l : List R), cs = [.slice a n c] ∧ l.length = n ∧ n ≤ c ∧ c ≤ maxLen ∧ Rds w a (l.flatMap E) := by
  rcases Go.Deep.open_slice ht hf with ⟨rfl, _⟩ | ⟨a', n, c, m, fu, D, Pl, rfl, hb, hl, hm, hmm, hx, hi⟩
  · exact ⟨none, 0, 0, [], rfl, rfl, Nat.le_refl _, Nat.zero_le _, Rds.nil _ _⟩
  · have hmn : n ≤ m := by split at hmm <;> omega
    have hall : ∀ i, i < n → ∃ x : R, w.cells? base (a'.add (i * k)) k = some (E x) ∧ (E x).length = k := fun i hin => by
      obtain ⟨cs', hc, ht'⟩ := hi i (by omega)
      rw [hk] at hc
      obtain ⟨x, rfl⟩ := ho _ _ _ _ _ _ _ _ ht'
      exact ⟨x, hc, (World.cells?_some hc).2.1⟩
    obtain ⟨l, hlen, hget⟩ : ∃ l : List R, l.length = n ∧ ∀ i (h : i < n), ∃ x, l[i]? = some x ∧ w.cells? base (a'.add (i * k)) k = some (E x) ∧ (E x).length = k := by
      clear hmm hx hi hf hl hmn
      induction n with
      | zero => exact ⟨[], rfl, fun i h => absurd h (by omega)⟩
      | succ n ih =>
        obtain ⟨l, h1, h2⟩ := ih (fun i hi => hall i (by omega))
        obtain ⟨x, hx, hxl⟩ := hall n (by omega)
        refine ⟨l ++ [x], by simp [h1], fun i hi => ?_⟩
        by_cases e : i < n
        · rw [List.getElem?_append_left (by omega)]; exact h2 i e
        · obtain rfl : i = n := by omega
          exact ⟨x, by rw [← h1]; simp, hx, hxl⟩
    refine ⟨_, _, _, l, rfl, hlen, hl, hm, ?_⟩
    intro j u hj
    obtain ⟨i, f, x, rfl, hfk, hx, hu⟩ := fl_split hz l j hj
    have hin : i < n := by rw [← hlen]; exact (List.getElem?_eq_some_iff.1 hx).1
    obtain ⟨x', hx', hc, -⟩ := hget i hin
    obtain rfl : x' = x := by rw [hx] at hx'; exact (Option.some.inj hx').symm
    have hcell := (World.cells?_some hc).2.2 f hfk
    rw [hu] at hcell
    obtain ⟨b, off, spot⟩ := a'
    have hspot : spot = none := by
      obtain ⟨x0, -, hc0, hl0⟩ := hget 0 (by omega)
      have h0 := (World.cells?_some hc0).2.2 0 (by omega)
      rw [List.getElem?_eq_getElem (by omega)] at h0
      simpa [Addr.add] using World.cell?_spot h0
    subst hspot
    refine ⟨rfl, ?_⟩
    simp only [aB, aO]
    rw [← hcell, Go.WideShapes.add_plain, Go.WideShapes.add_plain, Nat.add_assoc]
end
theorem cells86 : Try.prog.cellsOf 86 = 6 := by kernel_rfl
theorem opn_op : Opn Try.prog opcV 86 := fun enc w base spare held fuel cs x h => by
  obtain ⟨xs, n, -, -, hlen, hxl, hf⟩ := DataW.trod_struct Try.underlying86 h
  rw [cells86] at hlen
  match cs, hlen with
  | [c0, c1, c2, c3, c4, c5], _ =>
    match xs, hxl with
    | [y0, y1, y2, y3, y4, y5], _ =>
      obtain ⟨r0, e0⟩ := opn_i64 Try.underlying3 enc w base spare held n _ _ (hf 0 _ rfl)
      obtain ⟨r1, e1⟩ := opn_i64 Try.underlying3 enc w base spare held n _ _ (hf 1 _ rfl)
      obtain ⟨r2, e2⟩ := opn_i64 Try.underlying3 enc w base spare held n _ _ (hf 2 _ rfl)
      obtain ⟨r3, e3⟩ := opn_i64 Try.underlying3 enc w base spare held n _ _ (hf 3 _ rfl)
      obtain ⟨r4, e4⟩ := opn_i64 Try.underlying3 enc w base spare held n _ _ (hf 4 _ rfl)
      obtain ⟨r5, e5⟩ := opn_i64 Try.underlying2 enc w base spare held n _ _ (hf 5 _ rfl)
      simp [cells3, cells2] at e0 e1 e2 e3 e4 e5
      subst e0 e1 e2 e3 e4 e5
      exact ⟨⟨r0.toInt, r1.toInt, r2.toInt, r3.toInt, r4.toInt, r5⟩, rfl⟩
theorem cells82 : Try.prog.cellsOf 82 = 1 := by kernel_rfl
theorem cells84 : Try.prog.cellsOf 84 = 4 := by kernel_rfl
structure PrA where
  k : Int64
  a1 : Option Addr
  n1 : Nat
  c1 : Nat
  l1 : List Opc
  a2 : Option Addr
  n2 : Nat
  c2 : Nat
  l2 : List Opc
  a3 : Option Addr
  n3 : Nat
  c3 : Nat
  l3 : List Opc
@[reducible] def PrA.v (x : PrA) : List Value := [.int .i64 x.k.toInt, .slice x.a1 x.n1 x.c1, .slice x.a2 x.n2 x.c2, .slice x.a3 x.n3 x.c3]
structure PrA.At (x : PrA) (w : World) : Prop where
  hl1 : x.l1.length = x.n1
  hr1 : Rds w x.a1 (x.l1.flatMap opcV)
  hm1 : x.n1 ≤ 9223372036854775807
  hl2 : x.l2.length = x.n2
  hr2 : Rds w x.a2 (x.l2.flatMap opcV)
  hm2 : x.n2 ≤ 9223372036854775807
  hl3 : x.l3.length = x.n3
  hr3 : Rds w x.a3 (x.l3.flatMap opcV)
  hm3 : x.n3 ≤ 9223372036854775807
theorem opn_prog {H : Type} {enc : TypeId × Value → H} {w : World} {base : Nat} {spare : Nat → Bool} {held : Bool} {fuel : Nat} {cs : List Value} {y : DataW H × List MemPlace} (h : DataW.trod enc Try.prog w base spare held fuel 84 cs = some y) : ∃ x : PrA, cs = x.v ∧ x.At w := by
  obtain ⟨xs, n, -, -, hlen, hxl, hf⟩ := DataW.trod_struct Try.underlying84 h
  rw [cells84] at hlen
  match cs, hlen with
  | [c0, c1, c2, c3], _ =>
    match xs, hxl with
    | [y0, y1, y2, y3], _ =>
      obtain ⟨r0, e0⟩ := opn_i64 Try.underlying3 enc w base spare held n _ _ (hf 0 _ rfl)
      obtain ⟨a1, n1, d1, l1, e1, g1, m1, k1, r1⟩ := cell_slice Try.underlying82 opn_op opcV_len cells86 (by decide) (hf 1 _ rfl)
      obtain ⟨a2, n2, d2, l2, e2, g2, m2, k2, r2⟩ := cell_slice Try.underlying82 opn_op opcV_len cells86 (by decide) (hf 2 _ rfl)
      obtain ⟨a3, n3, d3, l3, e3, g3, m3, k3, r3⟩ := cell_slice Try.underlying82 opn_op opcV_len cells86 (by decide) (hf 3 _ rfl)
      simp [cells3, cells82] at e0 e1 e2 e3
      subst e0 e1 e2 e3
      exact ⟨⟨r0, a1, n1, d1, l1, a2, n2, d2, l2, a3, n3, d3, l3⟩, rfl, g1, r1, Nat.le_trans m1 k1, g2, r2, Nat.le_trans m2 k2, g3, r3, Nat.le_trans m3 k3⟩
theorem arg_prog {H : Type} {enc : TypeId × Value → H} {w : World} {base : Nat} {spare : Nat → Bool} {held : Bool} {r : Reach} {b0 : Nat} {v : Value} {d : DataW H} {ps : List MemPlace}
    (hval : Value.okWide Try.prog w r b0 84 v) (hd : DataW.Trod enc Try.prog w base spare held 84 v d ps) : ∃ x : PrA, v = .agg x.v.toArray ∧ x.At w := by
  obtain ⟨cs, rfl, -⟩ := okWide_struct Try.underlying84 hval
  obtain ⟨fuel, hf⟩ := hd
  obtain ⟨x, hx, hat⟩ := opn_prog hf
  refine ⟨x, ?_, hat⟩
  simp only [Value.cells] at hx
  rw [← hx]
structure PairA where
  u : Int64
  v : Int64
@[reducible] def pairV (x : PairA) : List Value := [.int .i64 x.u.toInt, .int .i64 x.v.toInt]
theorem cells89 : Try.prog.cellsOf 89 = 2 := by kernel_rfl
theorem opn_pair : Opn Try.prog pairV 89 := fun enc w base spare held fuel cs x h => by
  obtain ⟨xs, n, -, -, hlen, hxl, hf⟩ := DataW.trod_struct Try.underlying89 h
  rw [cells89] at hlen
  match cs, hlen with
  | [c0, c1], _ =>
    match xs, hxl with
    | [y0, y1], _ =>
      obtain ⟨r0, e0⟩ := opn_i64 Try.underlying2 enc w base spare held n _ _ (hf 0 _ rfl)
      obtain ⟨r1, e1⟩ := opn_i64 Try.underlying2 enc w base spare held n _ _ (hf 1 _ rfl)
      simp [cells2] at e0 e1
      subst e0 e1
      exact ⟨⟨r0, r1⟩, rfl⟩
end Go.Proofs.Ytldkjjnjdjfipaa
