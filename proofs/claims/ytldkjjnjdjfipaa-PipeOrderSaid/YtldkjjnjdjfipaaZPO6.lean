/- RPorder: a part of it: what its walk and its plain law need. -/
import Derived.WalkKit
import Derived.WalkSpells
import Derived.WalkLawsBesides
import Derived.TacticsIn
import Derived.OrdersIn
import Derived.RangeFuncIn
import Derived.RangeFuncLeaves
import Derived.RangeFuncRecord
import Derived.KernelRfl
import Derived.Maps.AppendAt
import Derived.Laws.Cover3
import Derived.Laws.MakeOwn
import Derived.Test.YtldkjjnjdjfipaaRows
import Derived.ProofKit
import Derived.OpenShut
import Derived.ShutString
import Derived.ChangeOld
import Derived.Below
import Derived.Deep.Slices
import Derived.Test.YtldkjjnjdjfipaaZPO5
namespace Go.Proofs.Ytldkjjnjdjfipaa
open Go Go.RowKit Go.ChangeShapes Go.WideShapes Go.ChangeAt
set_option linter.unusedVariables false
set_option linter.unusedSimpArgs false
theorem rowOwn : ownKnob Try.prog.godebug = none := by kernel_rfl
theorem rowLaid : laidOutB Try.prog = true := by kernel_rfl
def Opn {R : Type} (P : Program) (E : R → List Value) (t : TypeId) : Prop :=
  ∀ {H : Type} (enc : TypeId × Value → H) (w : World) (base : Nat) (spare : Nat → Bool) (held : Bool) (fuel : Nat) (cs : List Value) (x : DataW H × List MemPlace),
    DataW.trod enc P w base spare held fuel t cs = some x → ∃ r, cs = E r
theorem wf_i64 {n : Int} (h : (Lit.int .i64 n).wf = true) : ∃ x : Int64, n = x.toInt := by
  have hb := bounds_i64 h
  exact ⟨Int64.ofInt n, (Int64.toInt_ofInt_of_le (by omega) (by omega)).symm⟩
theorem opn_i64 {P : Program} {t : TypeId} (ht : P.underlying t = some (.int .i64)) : Opn P i64V t := fun enc w base spare held fuel cs x h => by
  obtain ⟨n, rfl, -, hw⟩ := DataW.trod_int ht h
  obtain ⟨x, rfl⟩ := wf_i64 hw
  exact ⟨x, rfl⟩
section
variable {P : Program} {H : Type} {enc : TypeId × Value → H} {w : World} {base : Nat} {spare : Nat → Bool} {held : Bool}
theorem arg_i64 {r : Reach} {b0 : Nat} {t : TypeId} {v : Value} {d : DataW H} {ps : List MemPlace} (ht : P.underlying t = some (.int .i64)) (hval : Value.okWide P w r b0 t v) (hd : DataW.Trod enc P w base spare held t v d ps) :
    ∃ x : Int64, v = .int .i64 x.toInt := by
  obtain ⟨n, rfl, -, -, hw⟩ := open_int ht hval hd
  obtain ⟨x, rfl⟩ := wf_i64 hw
  exact ⟨x, rfl⟩
theorem fl_split {R : Type} {E : R → List Value} {k : Nat} (hz : ∀ x, (E x).length = k) {u : Value} : ∀ (l : List R) (j : Nat), (l.flatMap E)[j]? = some u → ∃ i f x, j = i * k + f ∧ f < k ∧ l[i]? = some x ∧ (E x)[f]? = some u
  | [], j, h => by simp at h
  | y :: l, j, h => by
    rw [List.flatMap_cons] at h
    by_cases hj : j < k
    · rw [List.getElem?_append_left (by rw [hz]; exact hj)] at h
      exact ⟨0, j, y, by omega, hj, rfl, h⟩
    · rw [List.getElem?_append_right (by rw [hz]; omega), hz] at h
      obtain ⟨i, f, x, e, hf, hx, hu⟩ := fl_split hz l _ h
      exact ⟨i + 1, f, x, by rw [Nat.succ_mul]; omega, hf, by simpa using hx, hu⟩
theorem arg_slice {R : Type} {E : R → List Value} {e : TypeId} {k : Nat} {r : Reach} {b0 : Nat} {t : TypeId} {v : Value} {d : DataW H} {ps : List MemPlace} (ht : P.underlying t = some (.slice e)) (ho : Opn P E e) (hz : ∀ x, (E x).length = k) (hk : P.cellsOf e = k)
    (hval : Value.okWide P w r b0 t v) (hd : DataW.Trod enc P w base spare held t v d ps) :
    ∃ (a : Option Addr) (n c : Nat) (l : List R), v = .slice a n c ∧ l.length = n ∧ n ≤ c ∧ c ≤ maxLen ∧ Rds w a (l.flatMap E) := by
  obtain ⟨a, n, c, rfl⟩ := okWide_slice ht hval
  obtain ⟨fuel, hf⟩ := hd
  rcases Go.Deep.open_slice ht hf with ⟨hcs, _⟩ | ⟨a', len, cap, m, fu, D, Pl, hcs, hb, hl, hm, hmm, hx, hi⟩
  · simp [Value.cells] at hcs
    obtain ⟨rfl, rfl, rfl⟩ := hcs
    exact ⟨none, 0, 0, [], rfl, rfl, Nat.le_refl _, Nat.zero_le _, Rds.nil _ _⟩
  · simp [Value.cells] at hcs
    obtain ⟨rfl, rfl, rfl⟩ := hcs
    have hmn : n ≤ m := by split at hmm <;> omega
    have hall : ∀ i, i < n → ∃ x : R, w.cells? base (a'.add (i * k)) k = some (E x) ∧ (E x).length = k := fun i hin => by
      obtain ⟨cs', hc, ht'⟩ := hi i (by omega)
      rw [hk] at hc
      obtain ⟨x, rfl⟩ := ho _ _ _ _ _ _ _ _ ht'
      exact ⟨x, hc, (World.cells?_some hc).2.1⟩
    obtain ⟨l, hlen, hget⟩ : ∃ l : List R, l.length = n ∧ ∀ i (h : i < n), ∃ x, l[i]? = some x ∧ w.cells? base (a'.add (i * k)) k = some (E x) ∧ (E x).length = k := by
      clear hmm hx hi hf hl hmn hval
      induction n with
      | zero => exact ⟨[], rfl, fun i h => absurd h (by omega)⟩
      | succ n ih =>
        obtain ⟨l, h1, h2⟩ := ih (fun i hi => hall i (by omega))
        obtain ⟨x, hx, hxl⟩ := hall n (by omega)
        refine ⟨l ++ [x], by simp [h1], fun i hi => ?_⟩
        by_cases e : i < n
        · rw [List.getElem?_append_left (by omega)]; exact h2 i e
        · obtain rfl : i = n := by omega
          exact ⟨x, by rw [← h1]; simp, hx, hxl⟩
    refine ⟨_, _, _, l, rfl, hlen, hl, hm, ?_⟩
    intro j u hj
    obtain ⟨i, f, x, rfl, hfk, hx, hu⟩ := fl_split hz l j hj
    have hin : i < n := by rw [← hlen]; exact (List.getElem?_eq_some_iff.1 hx).1
    obtain ⟨x', hx', hc, -⟩ := hget i hin
    obtain rfl : x' = x := by rw [hx] at hx'; exact (Option.some.inj hx').symm
    have hcell := (World.cells?_some hc).2.2 f hfk
    rw [hu] at hcell
    obtain ⟨b, off, spot⟩ := a'
    have hspot : spot = none := by
      obtain ⟨x0, -, hc0, hl0⟩ := hget 0 (by omega)
      have h0 := (World.cells?_some hc0).2.2 0 (by omega)
      rw [List.getElem?_eq_getElem (by omega)] at h0
      simpa [Addr.add] using World.cell?_spot h0
    subst hspot
    refine ⟨rfl, ?_⟩
    simp only [aB, aO]
    rw [← hcell, Go.WideShapes.add_plain, Go.WideShapes.add_plain, Nat.add_assoc]
end
theorem joined_mk {P : Program} {f : FuncId} {fn : Func} {s : ChangeSpec} {c : OpenClaim}
    (k1 : c.wf (OpenSpec.ofChange s) = true) (k2 : laidOutB P = true) (k3 : mapsRowed P = true) (k4 : fn.params.all (P.readableRec ·) = true) (k5 : namedTie P c.named s.vars = true)
    (k6 : (c.stops == []) = true) (k7 : (P.stops == []) = true) (k8 : (c.knobs == []) = true) (k9 : (P.stopKnobs == []) = true)
    (k10 : (c.inPlace == P.inPlace f) = true) (k11 : (c.unfollowed == P.unfollowed f) = true) (k12 : (c.recurses == P.recurses f) = true) (k13 : (c.named == P.varsNamed f) = true)
    (k14 : (c.maps == (fn.params.toList ++ s.plain.varTypes P).any (P.mapsRec ·)) = true) (k15 : (c.ifaces == (fn.params.toList ++ s.plain.varTypes P).any (P.ifacesRec ·)) = true) (k16 : (c.mapsOut == P.mapsAmong fn.resultTypes.toList) = true)
    (k17 : (c.loops == (fn.params.toList ++ s.plain.varTypes P).any (P.loopsFrom ·)) = true) (k18 : (c.wideKeys == (fn.params.toList ++ s.plain.varTypes P ++ fn.resultTypes.toList).any (P.wideKeysFrom ·)) = true)
    (k19 : s.vars.all (P.varReadable ·) = true) (k20 : fn.resultTypes.all (fun t => P.readableRec t && decide (t < P.types.size)) = true) (k21 : (c.ifacesOut == fn.resultTypes.toList.any (P.ifacesRec ·)) = true) (k22 : (c.loopsOut == fn.resultTypes.toList.any (P.loopsFrom ·)) = true)
    (k23 : (c.plainKeys == P.plainKeys) = true) (k24 : c.shortTexts.isNone = true) (k25 : P.stopsHeard = true)
    (k26 : P.mayEnter = true) (k27 : (c.lifted == P.liftsFinal) = true) (k28 : (P.make == some c.make) = true) (k29 : (c.kinds == (if c.domain.isEmpty then [] else fn.params.toList.map fun t => match P.underlying t with | some (.int k) => some k | _ => none)) = true) (k29b : (c.pinned == c.pinnedBy) = true)
    (k30 : (c.veiled == (fn.params.toList ++ s.plain.varTypes P ++ fn.resultTypes.toList).any (P.veiledRec ·)) = true) (k31 : c.veiledFits P fn.params.toList (fn.params.toList ++ s.plain.varTypes P ++ fn.resultTypes.toList) = true) : joinedFacts P f fn s c = true := by
  unfold joinedFacts
  simp only [k1, k2, k3, k4, k5, k6, k7, k8, k9, k10, k11, k12, k13, k14, k15, k16, k17, k18, k19, k20, k21, k22, k23, k24, k25, k26, k27, k28, k29b, k30, k31, Bool.and_self, Bool.true_and, Bool.and_true]
  exact k29
theorem row2 : laidOutB Try.prog = true := rowLaid
theorem row3 : mapsRowed Try.prog = true := by kernel_rfl
theorem row7 : (Try.prog.stops == []) = true := by kernel_rfl
theorem row9 : (Try.prog.stopKnobs == []) = true := by kernel_rfl
theorem row23 : (Rows.recordTotalRow.plainKeys == Try.prog.plainKeys) = true := by kernel_rfl
theorem row25 : Try.prog.stopsHeard = true := by kernel_rfl
set_option maxRecDepth 100000
def headNs : List Nat := [104, 97, 114, 110, 101, 115, 115, 32, 55, 53, 98, 53, 51, 56, 54, 100, 99, 52, 53, 101, 54, 102, 51, 54, 99, 98, 56, 55, 98, 52, 49, 100, 97, 55, 100, 48, 98, 53, 99, 100, 56, 97, 53, 53, 101, 48, 102, 100, 48, 99, 51, 52, 101, 55, 55, 99, 56, 54, 50, 100, 54, 101, 99, 101, 100, 101, 49, 51, 48, 99, 99, 98, 32, 99, 117, 116, 32, 97, 116, 32, 100, 111, 109, 105, 110, 111, 47, 100, 111, 109, 105, 110, 111, 108, 97, 119, 48, 57, 46, 82, 101, 99, 111, 114, 100, 84, 111, 116, 97, 108, 32, 100, 111, 109, 105, 110, 111, 47, 100, 111, 109, 105, 110, 111, 108, 97, 119, 48, 57, 46, 82, 101, 99, 111, 114, 100, 79, 114, 100, 101, 114, 32, 100, 111, 109, 105, 110, 111, 47, 100, 111, 109, 105, 110, 111, 108, 97, 119, 48, 57, 46, 82, 101, 99, 111, 114, 100, 68, 101, 97, 100, 32, 100, 111, 109, 105, 110, 111, 47, 100, 111, 109, 105, 110, 111, 108, 97, 119, 49, 51, 46, 66, 105, 116, 111, 110, 105, 99, 80, 97, 100, 100, 101, 100, 32, 100, 111, 109, 105, 110, 111, 47, 100, 111, 109, 105, 110, 111, 108, 97, 119, 49, 51, 46, 66, 105, 116, 111, 110, 105, 99, 82, 111, 117, 110, 100, 115, 32, 100, 111, 109, 105, 110, 111, 47, 100, 111, 109, 105, 110, 111, 108, 97, 119, 49, 51, 46, 66, 105, 116, 111, 110, 105, 99, 83, 111, 114, 116, 115, 32, 100, 111, 109, 105, 110, 111, 47, 100, 111, 109, 105, 110, 111, 108, 97, 119, 49, 51, 46, 66, 105, 116, 111, 110, 105, 99, 79, 110, 99, 101, 32, 100, 111, 109, 105, 110, 111, 47, 100, 111, 109, 105, 110, 111, 108, 97, 119, 49, 51, 46, 66, 105, 116, 111, 110, 105, 99, 87, 97, 121, 115, 32, 100, 111, 109, 105, 110, 111, 47, 100, 111, 109, 105, 110, 111, 108, 97, 119, 49, 55, 46, 83, 104, 97, 112, 101, 67, 111, 117, 110, 116, 115, 32, 100, 111, 109, 105, 110, 111, 47, 100, 111, 109, 105, 110, 111, 108, 97, 119, 48, 57, 46, 82, 101, 99, 111, 114, 100, 80, 97, 99, 107, 115, 32, 100, 111, 109, 105, 110, 111, 47, 100, 111, 109, 105, 110, 111, 108, 97, 119, 48, 57, 46, 82, 101, 99, 111, 114, 100, 66, 97, 99, 107, 32, 100, 111, 109, 105, 110, 111, 47, 100, 111, 109, 105, 110, 111, 108, 97, 119, 49, 52, 46, 77, 101, 114, 103, 101, 72, 97, 108, 118, 101, 115, 32, 100, 111, 109, 105, 110, 111, 47, 100, 111, 109, 105, 110, 111, 108, 97, 119, 49, 52, 46, 77, 101, 114, 103, 101, 83, 116, 97, 98, 108, 101, 32, 100, 111, 109, 105, 110, 111, 47, 100, 111, 109, 105, 110, 111, 108, 97, 119, 49, 52, 46, 77, 101, 114, 103, 101, 83, 111, 114, 116, 115, 32, 100, 111, 109, 105, 110, 111, 47, 100, 111, 109, 105, 110, 111, 108, 97, 119, 49, 52, 46, 77, 101, 114, 103, 101, 75, 101, 101, 112, 115, 32, 100, 111, 109, 105, 110, 111, 47, 100, 111, 109, 105, 110, 111, 108, 97, 119, 49, 52, 46, 77, 101, 114, 103, 101, 78, 101, 116, 119, 111, 114, 107, 32, 100, 111, 109, 105, 110, 111, 47, 100, 111, 109, 105, 110, 111, 108, 97, 119, 49, 49, 46, 86, 109, 83, 108, 111, 116, 115, 32, 100, 111, 109, 105, 110, 111, 47, 100, 111, 109, 105, 110, 111, 108, 97, 119, 49, 49, 46, 86, 109, 76, 105, 110, 101, 115, 32, 100, 111, 109, 105, 110, 111, 47, 100, 111, 109, 105, 110, 111, 108, 97, 119, 49, 49, 46, 86, 109, 80, 117, 114, 101, 32, 100, 111, 109, 105, 110, 111, 47, 100, 111, 109, 105, 110, 111, 108, 97, 119, 49, 49, 46, 86, 109, 79, 112, 115, 32, 100, 111, 109, 105, 110, 111, 47, 100, 111, 109, 105, 110, 111, 108, 97, 119, 49, 49, 46, 86, 109, 66, 97, 100, 32, 100, 111, 109, 105, 110, 111, 47, 100, 111, 109, 105, 110, 111, 108, 97, 119, 49, 53, 46, 67, 104, 97, 105, 110, 83, 116, 101, 112, 115, 32, 100, 111, 109, 105, 110, 111, 47, 100, 111, 109, 105, 110, 111, 108, 97, 119, 49, 53, 46, 67, 104, 97, 105, 110, 67, 117, 116, 115, 32, 100, 111, 109, 105, 110, 111, 47, 100, 111, 109, 105, 110, 111, 108, 97, 119, 49, 53, 46, 67, 104, 97, 105, 110, 83, 117, 109, 115, 32, 100, 111, 109, 105, 110, 111, 47, 100, 111, 109, 105, 110, 111, 108, 97, 119, 49, 53, 46, 67, 104, 97, 105, 110, 80, 108, 97, 99, 101, 115, 32, 100, 111, 109, 105, 110, 111, 47, 100, 111, 109, 105, 110, 111, 108, 97, 119, 49, 53, 46, 67, 104, 97, 105, 110, 79, 110, 101, 32, 100, 111, 109, 105, 110, 111, 47, 100, 111, 109, 105, 110, 111, 108, 97, 119, 49, 55, 46, 83, 104, 97, 112, 101, 84, 97, 115, 107, 115, 32, 100, 111, 109, 105, 110, 111, 47, 100, 111, 109, 105, 110, 111, 108, 97, 119, 49, 55, 46, 83, 104, 97, 112, 101, 80, 117, 98, 108, 105, 99, 32, 100, 111, 109, 105, 110, 111, 47, 100, 111, 109, 105, 110, 111, 108, 97, 119, 49, 57, 46, 87, 105, 114, 101, 79, 114, 100, 101, 114, 32, 100, 111, 109, 105, 110, 111, 47, 100, 111, 109, 105, 110, 111, 108, 97, 119, 49, 57, 46, 87, 105, 114, 101, 67, 111, 117, 110, 116, 115, 32, 100, 111, 109, 105, 110, 111, 47, 100, 111, 109, 105, 110, 111, 108, 97, 119, 49, 57, 46, 87, 105, 114, 101, 80, 108, 97, 121, 115, 32, 100, 111, 109, 105, 110, 111, 47, 100, 111, 109, 105, 110, 111, 108, 97, 119, 49, 57, 46, 87, 105, 114, 101, 78, 105, 108, 32, 100, 111, 109, 105, 110, 111, 47, 100, 111, 109, 105, 110, 111, 108, 97, 119, 49, 55, 46, 83, 104, 97, 112, 101, 83, 112, 111, 116, 115, 32, 100, 111, 109, 105, 110, 111, 47, 100, 111, 109, 105, 110, 111, 108, 97, 119, 49, 55, 46, 83, 104, 97, 112, 101, 79, 114, 100, 101, 114, 32, 100, 111, 109, 105, 110, 111, 47, 100, 111, 109, 105, 110, 111, 108, 97, 119, 49, 54, 46, 80, 105, 112, 101, 83, 104, 97, 112, 101, 32, 100, 111, 109, 105, 110, 111, 47, 100, 111, 109, 105, 110, 111, 108, 97, 119, 49, 54, 46, 80, 105, 112, 101, 83, 112, 101, 99, 32, 100, 111, 109, 105, 110, 111, 47, 100, 111, 109, 105, 110, 111, 108, 97, 119, 49, 54, 46, 80, 105, 112, 101, 79, 114, 100, 101, 114, 32, 100, 111, 109, 105, 110, 111, 47, 100, 111, 109, 105, 110, 111, 108, 97, 119, 49, 54, 46, 80, 105, 112, 101, 83, 105, 122, 101, 115, 32, 100, 111, 109, 105, 110, 111, 47, 100, 111, 109, 105, 110, 111, 108, 97, 119, 49, 54, 46, 80, 105, 112, 101, 78, 111, 110, 101]
theorem head_eq : Try.prog.initOrder = String.ofList (headNs.map Char.ofNat) := by kernel_rfl
theorem head_list : Try.prog.initOrder.toList = headNs.map Char.ofNat := by rw [head_eq, String.toList_ofList]
def headWs : List (List Nat) := [
  [99, 117, 116],
  [97, 116],
  [100, 111, 109, 105, 110, 111, 47, 100, 111, 109, 105, 110, 111, 108, 97, 119, 48, 57, 46, 82, 101, 99, 111, 114, 100, 84, 111, 116, 97, 108],
  [100, 111, 109, 105, 110, 111, 47, 100, 111, 109, 105, 110, 111, 108, 97, 119, 48, 57, 46, 82, 101, 99, 111, 114, 100, 79, 114, 100, 101, 114],
  [100, 111, 109, 105, 110, 111, 47, 100, 111, 109, 105, 110, 111, 108, 97, 119, 48, 57, 46, 82, 101, 99, 111, 114, 100, 68, 101, 97, 100],
  [100, 111, 109, 105, 110, 111, 47, 100, 111, 109, 105, 110, 111, 108, 97, 119, 49, 51, 46, 66, 105, 116, 111, 110, 105, 99, 80, 97, 100, 100, 101, 100],
  [100, 111, 109, 105, 110, 111, 47, 100, 111, 109, 105, 110, 111, 108, 97, 119, 49, 51, 46, 66, 105, 116, 111, 110, 105, 99, 82, 111, 117, 110, 100, 115],
  [100, 111, 109, 105, 110, 111, 47, 100, 111, 109, 105, 110, 111, 108, 97, 119, 49, 51, 46, 66, 105, 116, 111, 110, 105, 99, 83, 111, 114, 116, 115],
  [100, 111, 109, 105, 110, 111, 47, 100, 111, 109, 105, 110, 111, 108, 97, 119, 49, 51, 46, 66, 105, 116, 111, 110, 105, 99, 79, 110, 99, 101],
  [100, 111, 109, 105, 110, 111, 47, 100, 111, 109, 105, 110, 111, 108, 97, 119, 49, 51, 46, 66, 105, 116, 111, 110, 105, 99, 87, 97, 121, 115],
  [100, 111, 109, 105, 110, 111, 47, 100, 111, 109, 105, 110, 111, 108, 97, 119, 49, 55, 46, 83, 104, 97, 112, 101, 67, 111, 117, 110, 116, 115],
  [100, 111, 109, 105, 110, 111, 47, 100, 111, 109, 105, 110, 111, 108, 97, 119, 48, 57, 46, 82, 101, 99, 111, 114, 100, 80, 97, 99, 107, 115],
  [100, 111, 109, 105, 110, 111, 47, 100, 111, 109, 105, 110, 111, 108, 97, 119, 48, 57, 46, 82, 101, 99, 111, 114, 100, 66, 97, 99, 107],
  [100, 111, 109, 105, 110, 111, 47, 100, 111, 109, 105, 110, 111, 108, 97, 119, 49, 52, 46, 77, 101, 114, 103, 101, 72, 97, 108, 118, 101, 115],
  [100, 111, 109, 105, 110, 111, 47, 100, 111, 109, 105, 110, 111, 108, 97, 119, 49, 52, 46, 77, 101, 114, 103, 101, 83, 116, 97, 98, 108, 101],
  [100, 111, 109, 105, 110, 111, 47, 100, 111, 109, 105, 110, 111, 108, 97, 119, 49, 52, 46, 77, 101, 114, 103, 101, 83, 111, 114, 116, 115],
  [100, 111, 109, 105, 110, 111, 47, 100, 111, 109, 105, 110, 111, 108, 97, 119, 49, 52, 46, 77, 101, 114, 103, 101, 75, 101, 101, 112, 115],
  [100, 111, 109, 105, 110, 111, 47, 100, 111, 109, 105, 110, 111, 108, 97, 119, 49, 52, 46, 77, 101, 114, 103, 101, 78, 101, 116, 119, 111, 114, 107],
  [100, 111, 109, 105, 110, 111, 47, 100, 111, 109, 105, 110, 111, 108, 97, 119, 49, 49, 46, 86, 109, 83, 108, 111, 116, 115],
  [100, 111, 109, 105, 110, 111, 47, 100, 111, 109, 105, 110, 111, 108, 97, 119, 49, 49, 46, 86, 109, 76, 105, 110, 101, 115],
  [100, 111, 109, 105, 110, 111, 47, 100, 111, 109, 105, 110, 111, 108, 97, 119, 49, 49, 46, 86, 109, 80, 117, 114, 101],
  [100, 111, 109, 105, 110, 111, 47, 100, 111, 109, 105, 110, 111, 108, 97, 119, 49, 49, 46, 86, 109, 79, 112, 115],
  [100, 111, 109, 105, 110, 111, 47, 100, 111, 109, 105, 110, 111, 108, 97, 119, 49, 49, 46, 86, 109, 66, 97, 100],
  [100, 111, 109, 105, 110, 111, 47, 100, 111, 109, 105, 110, 111, 108, 97, 119, 49, 53, 46, 67, 104, 97, 105, 110, 83, 116, 101, 112, 115],
  [100, 111, 109, 105, 110, 111, 47, 100, 111, 109, 105, 110, 111, 108, 97, 119, 49, 53, 46, 67, 104, 97, 105, 110, 67, 117, 116, 115],
  [100, 111, 109, 105, 110, 111, 47, 100, 111, 109, 105, 110, 111, 108, 97, 119, 49, 53, 46, 67, 104, 97, 105, 110, 83, 117, 109, 115],
  [100, 111, 109, 105, 110, 111, 47, 100, 111, 109, 105, 110, 111, 108, 97, 119, 49, 53, 46, 67, 104, 97, 105, 110, 80, 108, 97, 99, 101, 115],
  [100, 111, 109, 105, 110, 111, 47, 100, 111, 109, 105, 110, 111, 108, 97, 119, 49, 53, 46, 67, 104, 97, 105, 110, 79, 110, 101],
  [100, 111, 109, 105, 110, 111, 47, 100, 111, 109, 105, 110, 111, 108, 97, 119, 49, 55, 46, 83, 104, 97, 112, 101, 84, 97, 115, 107, 115],
  [100, 111, 109, 105, 110, 111, 47, 100, 111, 109, 105, 110, 111, 108, 97, 119, 49, 55, 46, 83, 104, 97, 112, 101, 80, 117, 98, 108, 105, 99],
  [100, 111, 109, 105, 110, 111, 47, 100, 111, 109, 105, 110, 111, 108, 97, 119, 49, 57, 46, 87, 105, 114, 101, 79, 114, 100, 101, 114],
  [100, 111, 109, 105, 110, 111, 47, 100, 111, 109, 105, 110, 111, 108, 97, 119, 49, 57, 46, 87, 105, 114, 101, 67, 111, 117, 110, 116, 115],
  [100, 111, 109, 105, 110, 111, 47, 100, 111, 109, 105, 110, 111, 108, 97, 119, 49, 57, 46, 87, 105, 114, 101, 80, 108, 97, 121, 115],
  [100, 111, 109, 105, 110, 111, 47, 100, 111, 109, 105, 110, 111, 108, 97, 119, 49, 57, 46, 87, 105, 114, 101, 78, 105, 108],
  [100, 111, 109, 105, 110, 111, 47, 100, 111, 109, 105, 110, 111, 108, 97, 119, 49, 55, 46, 83, 104, 97, 112, 101, 83, 112, 111, 116, 115],
  [100, 111, 109, 105, 110, 111, 47, 100, 111, 109, 105, 110, 111, 108, 97, 119, 49, 55, 46, 83, 104, 97, 112, 101, 79, 114, 100, 101, 114],
  [100, 111, 109, 105, 110, 111, 47, 100, 111, 109, 105, 110, 111, 108, 97, 119, 49, 54, 46, 80, 105, 112, 101, 83, 104, 97, 112, 101],
  [100, 111, 109, 105, 110, 111, 47, 100, 111, 109, 105, 110, 111, 108, 97, 119, 49, 54, 46, 80, 105, 112, 101, 83, 112, 101, 99],
  [100, 111, 109, 105, 110, 111, 47, 100, 111, 109, 105, 110, 111, 108, 97, 119, 49, 54, 46, 80, 105, 112, 101, 79, 114, 100, 101, 114],
  [100, 111, 109, 105, 110, 111, 47, 100, 111, 109, 105, 110, 111, 108, 97, 119, 49, 54, 46, 80, 105, 112, 101, 83, 105, 122, 101, 115],
  [100, 111, 109, 105, 110, 111, 47, 100, 111, 109, 105, 110, 111, 108, 97, 119, 49, 54, 46, 80, 105, 112, 101, 78, 111, 110, 101]]
theorem head_words : behindMainWord (wordsSigns (headNs.map Char.ofNat)) = headWs.map (·.map Char.ofNat) := by kernel_rfl
theorem head_ws : behindMainWord (wordsSigns Try.prog.initOrder.toList) = headWs.map (·.map Char.ofNat) := by rw [head_list, head_words]
theorem enter_of {P : Program} {ws : List (List Char)} (h : behindMainWord (wordsSigns P.initOrder.toList) = ws) (h0 : ws.head? = some "cut".toList) (h1 : stripLifts liftWords ws = ([], ws)) (h2 : P.laysLater = false) (h3 : P.bearsReflect = false) (h4 : P.doorFits [] = true) : P.mayEnter = true := by
  unfold Program.mayEnter
  rw [h]
  cases ws with
  | nil => simp at h0
  | cons c r =>
    simp only [h1, h0, h2, h3, h4]
    simp
theorem make_of {P : Program} {ws : List (List Char)} (h : behindMainWord (wordsSigns P.initOrder.toList) = ws) (h0 : ws.head? = some "cut".toList) (h1 : ("cut".toList == "gc".toList || "cut".toList == "spec".toList) = false) : P.make = some .cut := by
  unfold Program.make
  rw [h]
  cases ws with
  | nil => simp at h0
  | cons c r =>
    obtain rfl : c = "cut".toList := by simpa using h0
    dsimp only
    rw [h1]
    simp
theorem row26 : Try.prog.mayEnter = true := enter_of head_ws (by kernel_rfl) (by kernel_rfl) (by kernel_rfl) (by kernel_rfl) (by kernel_rfl)
theorem row27 : (Rows.recordTotalRow.lifted == Try.prog.liftsFinal) = true := by
  unfold Program.liftsFinal Program.headLifts
  rw [head_list, head_words]
  kernel_rfl
theorem make_eq : Try.prog.make = some .cut := make_of head_ws (by kernel_rfl) (by kernel_rfl)
theorem row28 : (Try.prog.make == some Rows.recordTotalRow.make) = true := by rw [make_eq]; rfl
theorem cells2 : Try.prog.cellsOf 2 = 1 := by kernel_rfl
end Go.Proofs.Ytldkjjnjdjfipaa
namespace Go.Proofs.Ytldkjjnjdjfipaa
open Go Go.RowKit Go.ChangeShapes Go.WideShapes Go.ChangeAt
set_option linter.unusedVariables false
set_option linter.unusedSimpArgs false
set_option maxRecDepth 10000
section
variable {P : Program} {H : Type} {enc : TypeId × Value → H} {w : World} {base : Nat} {spare : Nat → Bool} {held : Bool}
end
structure PrA where
  k : Int64
  a1 : Option Addr
  n1 : Nat
  c1 : Nat
  l1 : List Opc
  a2 : Option Addr
  n2 : Nat
  c2 : Nat
  l2 : List Opc
  a3 : Option Addr
  n3 : Nat
  c3 : Nat
  l3 : List Opc
@[reducible] def PrA.v (x : PrA) : List Value := [.int .i64 x.k.toInt, .slice x.a1 x.n1 x.c1, .slice x.a2 x.n2 x.c2, .slice x.a3 x.n3 x.c3]
structure PairA where
  u : Int64
  v : Int64
@[reducible] def pairV (x : PairA) : List Value := [.int .i64 x.u.toInt, .int .i64 x.v.toInt]
theorem pairV_len (x : PairA) : (pairV x).length = 2 := rfl
theorem cells89 : Try.prog.cellsOf 89 = 2 := by kernel_rfl
theorem opn_pair : Opn Try.prog pairV 89 := fun enc w base spare held fuel cs x h => by
  obtain ⟨xs, n, -, -, hlen, hxl, hf⟩ := DataW.trod_struct Try.underlying89 h
  rw [cells89] at hlen
  match cs, hlen with
  | [c0, c1], _ =>
    match xs, hxl with
    | [y0, y1], _ =>
      obtain ⟨r0, e0⟩ := opn_i64 Try.underlying2 enc w base spare held n _ _ (hf 0 _ rfl)
      obtain ⟨r1, e1⟩ := opn_i64 Try.underlying2 enc w base spare held n _ _ (hf 1 _ rfl)
      simp [cells2] at e0 e1
      subst e0 e1
      exact ⟨⟨r0, r1⟩, rfl⟩
end Go.Proofs.Ytldkjjnjdjfipaa
