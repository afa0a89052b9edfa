/- RPspec: a part of it: what its walk and its plain law need. -/
import Derived.WalkKit
import Derived.WalkSpells
import Derived.WalkLawsBesides
import Derived.TacticsIn
import Derived.OrdersIn
import Derived.RangeFuncIn
import Derived.RangeFuncLeaves
import Derived.RangeFuncRecord
import Derived.KernelRfl
import Derived.Maps.AppendAt
import Derived.Laws.Cover3
import Derived.Laws.MakeOwn
import Derived.Test.YtldkjjnjdjfipaaRows
import Derived.ChangeKeysEq
import Derived.ProofKit
import Derived.OpenShut
import Derived.ShutString
import Derived.ChangeOld
import Derived.Below
import Derived.Deep.Slices
import Derived.Test.YtldkjjnjdjfipaaZPS6
namespace Go.Proofs.Ytldkjjnjdjfipaa
open Go Go.RowKit Go.ChangeShapes Go.WideShapes Go.ChangeAt
set_option linter.unusedVariables false
set_option linter.unusedSimpArgs false
theorem rowOwn : ownKnob Try.prog.godebug = none := by kernel_rfl
theorem rowLaid : laidOutB Try.prog = true := by kernel_rfl
def Opn {R : Type} (P : Program) (E : R → List Value) (t : TypeId) : Prop :=
  ∀ {H : Type} (enc : TypeId × Value → H) (w : World) (base : Nat) (spare : Nat → Bool) (held : Bool) (fuel : Nat) (cs : List Value) (x : DataW H × List MemPlace),
    DataW.trod enc P w base spare held fuel t cs = some x → ∃ r, cs = E r
theorem wf_i64 {n : Int} (h : (Lit.int .i64 n).wf = true) : ∃ x : Int64, n = x.toInt := by
  have hb := bounds_i64 h
  exact ⟨Int64.ofInt n, (Int64.toInt_ofInt_of_le (by omega) (by omega)).symm⟩
theorem wf_u64 {n : Int} (h : (Lit.int .u64 n).wf = true) : ∃ x : UInt64, n = (x.toNat : Int) := by
  have hb := bounds_u64 h
  refine ⟨UInt64.ofNat n.toNat, ?_⟩
  rw [UInt64.toNat_ofNat_of_lt' (by simp [UInt64.size]; omega)]
  omega
theorem wf_u8 {n : Int} (h : (Lit.int .u8 n).wf = true) : ∃ x : UInt8, n = (x.toNat : Int) := by
  have hb := bounds_u8 h
  refine ⟨UInt8.ofNat n.toNat, ?_⟩
  rw [UInt8.toNat_ofNat_of_lt' (by simp [UInt8.size]; omega)]
  omega
theorem opn_i64 {P : Program} {t : TypeId} (ht : P.underlying t = some (.int .i64)) : Opn P i64V t := fun enc w base spare held fuel cs x h => by
  obtain ⟨n, rfl, -, hw⟩ := DataW.trod_int ht h
  obtain ⟨x, rfl⟩ := wf_i64 hw
  exact ⟨x, rfl⟩
theorem opn_u64 {P : Program} {t : TypeId} (ht : P.underlying t = some (.int .u64)) : Opn P u64V t := fun enc w base spare held fuel cs x h => by
  obtain ⟨n, rfl, -, hw⟩ := DataW.trod_int ht h
  obtain ⟨x, rfl⟩ := wf_u64 hw
  exact ⟨x, rfl⟩
theorem opn_u8 {P : Program} {t : TypeId} (ht : P.underlying t = some (.int .u8)) : Opn P byteV t := fun enc w base spare held fuel cs x h => by
  obtain ⟨n, rfl, -, hw⟩ := DataW.trod_int ht h
  obtain ⟨x, rfl⟩ := wf_u8 hw
  exact ⟨x, rfl⟩
section
variable {P : Program} {H : Type} {enc : TypeId × Value → H} {w : World} {base : Nat} {spare : Nat → Bool} {held : Bool}
theorem fl_split {R : Type} {E : R → List Value} {k : Nat} (hz : ∀ x, (E x).length = k) {u : Value} : ∀ (l : List R) (j : Nat), (l.flatMap E)[j]? = some u → ∃ i f x, j = i * k + f ∧ f < k ∧ l[i]? = some x ∧ (E x)[f]? = some u
  | [], j, h => by simp at h
  | y :: l, j, h => by
    rw [List.flatMap_cons] at h
    by_cases hj : j < k
    · rw [List.getElem?_append_left (by rw [hz]; exact hj)] at h
      exact ⟨0, j, y, by omega, hj, rfl, h⟩
    · rw [List.getElem?_append_right (by rw [hz]; omega), hz] at h
      obtain ⟨i, f, x, e, hf, hx, hu⟩ := fl_split hz l _ h
      exact ⟨i + 1, f, x, by rw [Nat.succ_mul]; omega, hf, by simpa using hx, hu⟩
end
theorem joined_mk {P : Program} {f : FuncId} {fn : Func} {s : ChangeSpec} {c : OpenClaim}
    (k1 : c.wf (OpenSpec.ofChange s) = true) (k2 : laidOutB P = true) (k3 : mapsRowed P = true) (k4 : fn.params.all (P.readableRec ·) = true) (k5 : namedTie P c.named s.vars = true)
    (k6 : (c.stops == []) = true) (k7 : (P.stops == []) = true) (k8 : (c.knobs == []) = true) (k9 : (P.stopKnobs == []) = true)
    (k10 : (c.inPlace == P.inPlace f) = true) (k11 : (c.unfollowed == P.unfollowed f) = true) (k12 : (c.recurses == P.recurses f) = true) (k13 : (c.named == P.varsNamed f) = true)
    (k14 : (c.maps == (fn.params.toList ++ s.plain.varTypes P).any (P.mapsRec ·)) = true) (k15 : (c.ifaces == (fn.params.toList ++ s.plain.varTypes P).any (P.ifacesRec ·)) = true) (k16 : (c.mapsOut == P.mapsAmong fn.resultTypes.toList) = true)
    (k17 : (c.loops == (fn.params.toList ++ s.plain.varTypes P).any (P.loopsFrom ·)) = true) (k18 : (c.wideKeys == (fn.params.toList ++ s.plain.varTypes P ++ fn.resultTypes.toList).any (P.wideKeysFrom ·)) = true)
    (k19 : s.vars.all (P.varReadable ·) = true) (k20 : fn.resultTypes.all (fun t => P.readableRec t && decide (t < P.types.size)) = true) (k21 : (c.ifacesOut == fn.resultTypes.toList.any (P.ifacesRec ·)) = true) (k22 : (c.loopsOut == fn.resultTypes.toList.any (P.loopsFrom ·)) = true)
    (k23 : (c.plainKeys == P.plainKeys) = true) (k24 : c.shortTexts.isNone = true) (k25 : P.stopsHeard = true)
    (k26 : P.mayEnter = true) (k27 : (c.lifted == P.liftsFinal) = true) (k28 : (P.make == some c.make) = true) (k29 : (c.kinds == (if c.domain.isEmpty then [] else fn.params.toList.map fun t => match P.underlying t with | some (.int k) => some k | _ => none)) = true) (k29b : (c.pinned == c.pinnedBy) = true)
    (k30 : (c.veiled == (fn.params.toList ++ s.plain.varTypes P ++ fn.resultTypes.toList).any (P.veiledRec ·)) = true) (k31 : c.veiledFits P fn.params.toList (fn.params.toList ++ s.plain.varTypes P ++ fn.resultTypes.toList) = true) : joinedFacts P f fn s c = true := by
  unfold joinedFacts
  simp only [k1, k2, k3, k4, k5, k6, k7, k8, k9, k10, k11, k12, k13, k14, k15, k16, k17, k18, k19, k20, k21, k22, k23, k24, k25, k26, k27, k28, k29b, k30, k31, Bool.and_self, Bool.true_and, Bool.and_true]
  exact k29
theorem row2 : laidOutB Try.prog = true := rowLaid
theorem row3 : mapsRowed Try.prog = true := by kernel_rfl
theorem row7 : (Try.prog.stops == []) = true := by kernel_rfl
theorem row9 : (Try.prog.stopKnobs == []) = true := by kernel_rfl
theorem row23 : (Rows.recordTotalRow.plainKeys == Try.prog.plainKeys) = true := by kernel_rfl
theorem row25 : Try.prog.stopsHeard = true := by kernel_rfl
set_option maxRecDepth 100000
def headNs : List Nat := [104, 97, 114, 110, 101, 115, 115, 32, 55, 53, 98, 53, 51, 56, 54, 100, 99, 52, 53, 101, 54, 102, 51, 54, 99, 98, 56, 55, 98, 52, 49, 100, 97, 55, 100, 48, 98, 53, 99, 100, 56, 97, 53, 53, 101, 48, 102, 100, 48, 99, 51, 52, 101, 55, 55, 99, 56, 54, 50, 100, 54, 101, 99, 101, 100, 101, 49, 51, 48, 99, 99, 98, 32, 99, 117, 116, 32, 97, 116, 32, 100, 111, 109, 105, 110, 111, 47, 100, 111, 109, 105, 110, 111, 108, 97, 119, 48, 57, 46, 82, 101, 99, 111, 114, 100, 84, 111, 116, 97, 108, 32, 100, 111, 109, 105, 110, 111, 47, 100, 111, 109, 105, 110, 111, 108, 97, 119, 48, 57, 46, 82, 101, 99, 111, 114, 100, 79, 114, 100, 101, 114, 32, 100, 111, 109, 105, 110, 111, 47, 100, 111, 109, 105, 110, 111, 108, 97, 119, 48, 57, 46, 82, 101, 99, 111, 114, 100, 68, 101, 97, 100, 32, 100, 111, 109, 105, 110, 111, 47, 100, 111, 109, 105, 110, 111, 108, 97, 119, 49, 51, 46, 66, 105, 116, 111, 110, 105, 99, 80, 97, 100, 100, 101, 100, 32, 100, 111, 109, 105, 110, 111, 47, 100, 111, 109, 105, 110, 111, 108, 97, 119, 49, 51, 46, 66, 105, 116, 111, 110, 105, 99, 82, 111, 117, 110, 100, 115, 32, 100, 111, 109, 105, 110, 111, 47, 100, 111, 109, 105, 110, 111, 108, 97, 119, 49, 51, 46, 66, 105, 116, 111, 110, 105, 99, 83, 111, 114, 116, 115, 32, 100, 111, 109, 105, 110, 111, 47, 100, 111, 109, 105, 110, 111, 108, 97, 119, 49, 51, 46, 66, 105, 116, 111, 110, 105, 99, 79, 110, 99, 101, 32, 100, 111, 109, 105, 110, 111, 47, 100, 111, 109, 105, 110, 111, 108, 97, 119, 49, 51, 46, 66, 105, 116, 111, 110, 105, 99, 87, 97, 121, 115, 32, 100, 111, 109, 105, 110, 111, 47, 100, 111, 109, 105, 110, 111, 108, 97, 119, 49, 55, 46, 83, 104, 97, 112, 101, 67, 111, 117, 110, 116, 115, 32, 100, 111, 109, 105, 110, 111, 47, 100, 111, 109, 105, 110, 111, 108, 97, 119, 48, 57, 46, 82, 101, 99, 111, 114, 100, 80, 97, 99, 107, 115, 32, 100, 111, 109, 105, 110, 111, 47, 100, 111, 109, 105, 110, 111, 108, 97, 119, 48, 57, 46, 82, 101, 99, 111, 114, 100, 66, 97, 99, 107, 32, 100, 111, 109, 105, 110, 111, 47, 100, 111, 109, 105, 110, 111, 108, 97, 119, 49, 52, 46, 77, 101, 114, 103, 101, 72, 97, 108, 118, 101, 115, 32, 100, 111, 109, 105, 110, 111, 47, 100, 111, 109, 105, 110, 111, 108, 97, 119, 49, 52, 46, 77, 101, 114, 103, 101, 83, 116, 97, 98, 108, 101, 32, 100, 111, 109, 105, 110, 111, 47, 100, 111, 109, 105, 110, 111, 108, 97, 119, 49, 52, 46, 77, 101, 114, 103, 101, 83, 111, 114, 116, 115, 32, 100, 111, 109, 105, 110, 111, 47, 100, 111, 109, 105, 110, 111, 108, 97, 119, 49, 52, 46, 77, 101, 114, 103, 101, 75, 101, 101, 112, 115, 32, 100, 111, 109, 105, 110, 111, 47, 100, 111, 109, 105, 110, 111, 108, 97, 119, 49, 52, 46, 77, 101, 114, 103, 101, 78, 101, 116, 119, 111, 114, 107, 32, 100, 111, 109, 105, 110, 111, 47, 100, 111, 109, 105, 110, 111, 108, 97, 119, 49, 49, 46, 86, 109, 83, 108, 111, 116, 115, 32, 100, 111, 109, 105, 110, 111, 47, 100, 111, 109, 105, 110, 111, 108, 97, 119, 49, 49, 46, 86, 109, 76, 105, 110, 101, 115, 32, 100, 111, 109, 105, 110, 111, 47, 100, 111, 109, 105, 110, 111, 108, 97, 119, 49, 49, 46, 86, 109, 80, 117, 114, 101, 32, 100, 111, 109, 105, 110, 111, 47, 100, 111, 109, 105, 110, 111, 108, 97, 119, 49, 49, 46, 86, 109, 79, 112, 115, 32, 100, 111, 109, 105, 110, 111, 47, 100, 111, 109, 105, 110, 111, 108, 97, 119, 49, 49, 46, 86, 109, 66, 97, 100, 32, 100, 111, 109, 105, 110, 111, 47, 100, 111, 109, 105, 110, 111, 108, 97, 119, 49, 53, 46, 67, 104, 97, 105, 110, 83, 116, 101, 112, 115, 32, 100, 111, 109, 105, 110, 111, 47, 100, 111, 109, 105, 110, 111, 108, 97, 119, 49, 53, 46, 67, 104, 97, 105, 110, 67, 117, 116, 115, 32, 100, 111, 109, 105, 110, 111, 47, 100, 111, 109, 105, 110, 111, 108, 97, 119, 49, 53, 46, 67, 104, 97, 105, 110, 83, 117, 109, 115, 32, 100, 111, 109, 105, 110, 111, 47, 100, 111, 109, 105, 110, 111, 108, 97, 119, 49, 53, 46, 67, 104, 97, 105, 110, 80, 108, 97, 99, 101, 115, 32, 100, 111, 109, 105, 110, 111, 47, 100, 111, 109, 105, 110, 111, 108, 97, 119, 49, 53, 46, 67, 104, 97, 105, 110, 79, 110, 101, 32, 100, 111, 109, 105, 110, 111, 47, 100, 111, 109, 105, 110, 111, 108, 97, 119, 49, 55, 46, 83, 104, 97, 112, 101, 84, 97, 115, 107, 115, 32, 100, 111, 109, 105, 110, 111, 47, 100, 111, 109, 105, 110, 111, 108, 97, 119, 49, 55, 46, 83, 104, 97, 112, 101, 80, 117, 98, 108, 105, 99, 32, 100, 111, 109, 105, 110, 111, 47, 100, 111, 109, 105, 110, 111, 108, 97, 119, 49, 57, 46, 87, 105, 114, 101, 79, 114, 100, 101, 114, 32, 100, 111, 109, 105, 110, 111, 47, 100, 111, 109, 105, 110, 111, 108, 97, 119, 49, 57, 46, 87, 105, 114, 101, 67, 111, 117, 110, 116, 115, 32, 100, 111, 109, 105, 110, 111, 47, 100, 111, 109, 105, 110, 111, 108, 97, 119, 49, 57, 46, 87, 105, 114, 101, 80, 108, 97, 121, 115, 32, 100, 111, 109, 105, 110, 111, 47, 100, 111, 109, 105, 110, 111, 108, 97, 119, 49, 57, 46, 87, 105, 114, 101, 78, 105, 108, 32, 100, 111, 109, 105, 110, 111, 47, 100, 111, 109, 105, 110, 111, 108, 97, 119, 49, 55, 46, 83, 104, 97, 112, 101, 83, 112, 111, 116, 115, 32, 100, 111, 109, 105, 110, 111, 47, 100, 111, 109, 105, 110, 111, 108, 97, 119, 49, 55, 46, 83, 104, 97, 112, 101, 79, 114, 100, 101, 114, 32, 100, 111, 109, 105, 110, 111, 47, 100, 111, 109, 105, 110, 111, 108, 97, 119, 49, 54, 46, 80, 105, 112, 101, 83, 104, 97, 112, 101, 32, 100, 111, 109, 105, 110, 111, 47, 100, 111, 109, 105, 110, 111, 108, 97, 119, 49, 54, 46, 80, 105, 112, 101, 83, 112, 101, 99, 32, 100, 111, 109, 105, 110, 111, 47, 100, 111, 109, 105, 110, 111, 108, 97, 119, 49, 54, 46, 80, 105, 112, 101, 79, 114, 100, 101, 114, 32, 100, 111, 109, 105, 110, 111, 47, 100, 111, 109, 105, 110, 111, 108, 97, 119, 49, 54, 46, 80, 105, 112, 101, 83, 105, 122, 101, 115, 32, 100, 111, 109, 105, 110, 111, 47, 100, 111, 109, 105, 110, 111, 108, 97, 119, 49, 54, 46, 80, 105, 112, 101, 78, 111, 110, 101]
theorem head_eq : Try.prog.initOrder = String.ofList (headNs.map Char.ofNat) := by kernel_rfl
theorem head_list : Try.prog.initOrder.toList = headNs.map Char.ofNat := by rw [head_eq, String.toList_ofList]
def headWs : List (List Nat) := [
  [99, 117, 116],
  [97, 116],
  [100, 111, 109, 105, 110, 111, 47, 100, 111, 109, 105, 110, 111, 108, 97, 119, 48, 57, 46, 82, 101, 99, 111, 114, 100, 84, 111, 116, 97, 108],
  [100, 111, 109, 105, 110, 111, 47, 100, 111, 109, 105, 110, 111, 108, 97, 119, 48, 57, 46, 82, 101, 99, 111, 114, 100, 79, 114, 100, 101, 114],
  [100, 111, 109, 105, 110, 111, 47, 100, 111, 109, 105, 110, 111, 108, 97, 119, 48, 57, 46, 82, 101, 99, 111, 114, 100, 68, 101, 97, 100],
  [100, 111, 109, 105, 110, 111, 47, 100, 111, 109, 105, 110, 111, 108, 97, 119, 49, 51, 46, 66, 105, 116, 111, 110, 105, 99, 80, 97, 100, 100, 101, 100],
  [100, 111, 109, 105, 110, 111, 47, 100, 111, 109, 105, 110, 111, 108, 97, 119, 49, 51, 46, 66, 105, 116, 111, 110, 105, 99, 82, 111, 117, 110, 100, 115],
  [100, 111, 109, 105, 110, 111, 47, 100, 111, 109, 105, 110, 111, 108, 97, 119, 49, 51, 46, 66, 105, 116, 111, 110, 105, 99, 83, 111, 114, 116, 115],
  [100, 111, 109, 105, 110, 111, 47, 100, 111, 109, 105, 110, 111, 108, 97, 119, 49, 51, 46, 66, 105, 116, 111, 110, 105, 99, 79, 110, 99, 101],
  [100, 111, 109, 105, 110, 111, 47, 100, 111, 109, 105, 110, 111, 108, 97, 119, 49, 51, 46, 66, 105, 116, 111, 110, 105, 99, 87, 97, 121, 115],
  [100, 111, 109, 105, 110, 111, 47, 100, 111, 109, 105, 110, 111, 108, 97, 119, 49, 55, 46, 83, 104, 97, 112, 101, 67, 111, 117, 110, 116, 115],
  [100, 111, 109, 105, 110, 111, 47, 100, 111, 109, 105, 110, 111, 108, 97, 119, 48, 57, 46, 82, 101, 99, 111, 114, 100, 80, 97, 99, 107, 115],
  [100, 111, 109, 105, 110, 111, 47, 100, 111, 109, 105, 110, 111, 108, 97, 119, 48, 57, 46, 82, 101, 99, 111, 114, 100, 66, 97, 99, 107],
  [100, 111, 109, 105, 110, 111, 47, 100, 111, 109, 105, 110, 111, 108, 97, 119, 49, 52, 46, 77, 101, 114, 103, 101, 72, 97, 108, 118, 101, 115],
  [100, 111, 109, 105, 110, 111, 47, 100, 111, 109, 105, 110, 111, 108, 97, 119, 49, 52, 46, 77, 101, 114, 103, 101, 83, 116, 97, 98, 108, 101],
  [100, 111, 109, 105, 110, 111, 47, 100, 111, 109, 105, 110, 111, 108, 97, 119, 49, 52, 46, 77, 101, 114, 103, 101, 83, 111, 114, 116, 115],
  [100, 111, 109, 105, 110, 111, 47, 100, 111, 109, 105, 110, 111, 108, 97, 119, 49, 52, 46, 77, 101, 114, 103, 101, 75, 101, 101, 112, 115],
  [100, 111, 109, 105, 110, 111, 47, 100, 111, 109, 105, 110, 111, 108, 97, 119, 49, 52, 46, 77, 101, 114, 103, 101, 78, 101, 116, 119, 111, 114, 107],
  [100, 111, 109, 105, 110, 111, 47, 100, 111, 109, 105, 110, 111, 108, 97, 119, 49, 49, 46, 86, 109, 83, 108, 111, 116, 115],
  [100, 111, 109, 105, 110, 111, 47, 100, 111, 109, 105, 110, 111, 108, 97, 119, 49, 49, 46, 86, 109, 76, 105, 110, 101, 115],
  [100, 111, 109, 105, 110, 111, 47, 100, 111, 109, 105, 110, 111, 108, 97, 119, 49, 49, 46, 86, 109, 80, 117, 114, 101],
  [100, 111, 109, 105, 110, 111, 47, 100, 111, 109, 105, 110, 111, 108, 97, 119, 49, 49, 46, 86, 109, 79, 112, 115],
  [100, 111, 109, 105, 110, 111, 47, 100, 111, 109, 105, 110, 111, 108, 97, 119, 49, 49, 46, 86, 109, 66, 97, 100],
  [100, 111, 109, 105, 110, 111, 47, 100, 111, 109, 105, 110, 111, 108, 97, 119, 49, 53, 46, 67, 104, 97, 105, 110, 83, 116, 101, 112, 115],
  [100, 111, 109, 105, 110, 111, 47, 100, 111, 109, 105, 110, 111, 108, 97, 119, 49, 53, 46, 67, 104, 97, 105, 110, 67, 117, 116, 115],
  [100, 111, 109, 105, 110, 111, 47, 100, 111, 109, 105, 110, 111, 108, 97, 119, 49, 53, 46, 67, 104, 97, 105, 110, 83, 117, 109, 115],
  [100, 111, 109, 105, 110, 111, 47, 100, 111, 109, 105, 110, 111, 108, 97, 119, 49, 53, 46, 67, 104, 97, 105, 110, 80, 108, 97, 99, 101, 115],
  [100, 111, 109, 105, 110, 111, 47, 100, 111, 109, 105, 110, 111, 108, 97, 119, 49, 53, 46, 67, 104, 97, 105, 110, 79, 110, 101],
  [100, 111, 109, 105, 110, 111, 47, 100, 111, 109, 105, 110, 111, 108, 97, 119, 49, 55, 46, 83, 104, 97, 112, 101, 84, 97, 115, 107, 115],
  [100, 111, 109, 105, 110, 111, 47, 100, 111, 109, 105, 110, 111, 108, 97, 119, 49, 55, 46, 83, 104, 97, 112, 101, 80, 117, 98, 108, 105, 99],
  [100, 111, 109, 105, 110, 111, 47, 100, 111, 109, 105, 110, 111, 108, 97, 119, 49, 57, 46, 87, 105, 114, 101, 79, 114, 100, 101, 114],
  [100, 111, 109, 105, 110, 111, 47, 100, 111, 109, 105, 110, 111, 108, 97, 119, 49, 57, 46, 87, 105, 114, 101, 67, 111, 117, 110, 116, 115],
  [100, 111, 109, 105, 110, 111, 47, 100, 111, 109, 105, 110, 111, 108, 97, 119, 49, 57, 46, 87, 105, 114, 101, 80, 108, 97, 121, 115],
  [100, 111, 109, 105, 110, 111, 47, 100, 111, 109, 105, 110, 111, 108, 97, 119, 49, 57, 46, 87, 105, 114, 101, 78, 105, 108],
  [100, 111, 109, 105, 110, 111, 47, 100, 111, 109, 105, 110, 111, 108, 97, 119, 49, 55, 46, 83, 104, 97, 112, 101, 83, 112, 111, 116, 115],
  [100, 111, 109, 105, 110, 111, 47, 100, 111, 109, 105, 110, 111, 108, 97, 119, 49, 55, 46, 83, 104, 97, 112, 101, 79, 114, 100, 101, 114],
  [100, 111, 109, 105, 110, 111, 47, 100, 111, 109, 105, 110, 111, 108, 97, 119, 49, 54, 46, 80, 105, 112, 101, 83, 104, 97, 112, 101],
  [100, 111, 109, 105, 110, 111, 47, 100, 111, 109, 105, 110, 111, 108, 97, 119, 49, 54, 46, 80, 105, 112, 101, 83, 112, 101, 99],
  [100, 111, 109, 105, 110, 111, 47, 100, 111, 109, 105, 110, 111, 108, 97, 119, 49, 54, 46, 80, 105, 112, 101, 79, 114, 100, 101, 114],
  [100, 111, 109, 105, 110, 111, 47, 100, 111, 109, 105, 110, 111, 108, 97, 119, 49, 54, 46, 80, 105, 112, 101, 83, 105, 122, 101, 115],
  [100, 111, 109, 105, 110, 111, 47, 100, 111, 109, 105, 110, 111, 108, 97, 119, 49, 54, 46, 80, 105, 112, 101, 78, 111, 110, 101]]
theorem head_words : behindMainWord (wordsSigns (headNs.map Char.ofNat)) = headWs.map (·.map Char.ofNat) := by kernel_rfl
theorem head_ws : behindMainWord (wordsSigns Try.prog.initOrder.toList) = headWs.map (·.map Char.ofNat) := by rw [head_list, head_words]
theorem enter_of {P : Program} {ws : List (List Char)} (h : behindMainWord (wordsSigns P.initOrder.toList) = ws) (h0 : ws.head? = some "cut".toList) (h1 : stripLifts liftWords ws = ([], ws)) (h2 : P.laysLater = false) (h3 : P.bearsReflect = false) (h4 : P.doorFits [] = true) : P.mayEnter = true := by
  unfold Program.mayEnter
  rw [h]
  cases ws with
  | nil => simp at h0
  | cons c r =>
    simp only [h1, h0, h2, h3, h4]
    simp
theorem make_of {P : Program} {ws : List (List Char)} (h : behindMainWord (wordsSigns P.initOrder.toList) = ws) (h0 : ws.head? = some "cut".toList) (h1 : ("cut".toList == "gc".toList || "cut".toList == "spec".toList) = false) : P.make = some .cut := by
  unfold Program.make
  rw [h]
  cases ws with
  | nil => simp at h0
  | cons c r =>
    obtain rfl : c = "cut".toList := by simpa using h0
    dsimp only
    rw [h1]
    simp
theorem row26 : Try.prog.mayEnter = true := enter_of head_ws (by kernel_rfl) (by kernel_rfl) (by kernel_rfl) (by kernel_rfl) (by kernel_rfl)
theorem row27 : (Rows.recordTotalRow.lifted == Try.prog.liftsFinal) = true := by
  unfold Program.liftsFinal Program.headLifts
  rw [head_list, head_words]
  kernel_rfl
theorem make_eq : Try.prog.make = some .cut := make_of head_ws (by kernel_rfl) (by kernel_rfl)
theorem row28 : (Try.prog.make == some Rows.recordTotalRow.make) = true := by rw [make_eq]; rfl
theorem cells2 : Try.prog.cellsOf 2 = 1 := by kernel_rfl
end Go.Proofs.Ytldkjjnjdjfipaa
namespace Go.Proofs.Ytldkjjnjdjfipaa
open Go Go.RowKit Go.ChangeShapes Go.WideShapes Go.ChangeAt
set_option linter.unusedVariables false
set_option linter.unusedSimpArgs false
set_option maxRecDepth 10000
theorem cells3 : Try.prog.cellsOf 3 = 1 := by kernel_rfl
theorem cells53 : Try.prog.cellsOf 53 = 4 := by kernel_rfl
theorem opn_par : Opn Try.prog parV 53 := fun enc w base spare held fuel cs x h => by
  obtain ⟨xs, n, -, -, hlen, hxl, hf⟩ := DataW.trod_struct Try.underlying53 h
  rw [cells53] at hlen
  match cs, hlen with
  | [c0, c1, c2, c3], _ =>
    match xs, hxl with
    | [y0, y1, y2, y3], _ =>
      obtain ⟨r0, e0⟩ := opn_i64 Try.underlying3 enc w base spare held n _ _ (hf 0 _ rfl)
      obtain ⟨r1, e1⟩ := opn_i64 Try.underlying3 enc w base spare held n _ _ (hf 1 _ rfl)
      obtain ⟨r2, e2⟩ := opn_i64 Try.underlying3 enc w base spare held n _ _ (hf 2 _ rfl)
      obtain ⟨r3, e3⟩ := opn_i64 Try.underlying3 enc w base spare held n _ _ (hf 3 _ rfl)
      simp [cells3] at e0 e1 e2 e3
      subst e0 e1 e2 e3
      exact ⟨⟨r0.toInt, r1.toInt, r2.toInt, r3.toInt⟩, rfl⟩
end Go.Proofs.Ytldkjjnjdjfipaa
namespace Go.Proofs.Ytldkjjnjdjfipaa
open Go Go.RowKit Go.ChangeShapes Go.WideShapes Go.ChangeAt
set_option linter.unusedVariables false
set_option linter.unusedSimpArgs false
set_option maxRecDepth 10000
section
variable {P : Program} {H : Type} {enc : TypeId × Value → H} {w : World} {base : Nat} {spare : Nat → Bool} {held : Bool}
theorem cell_slice {R : Type} {E : R → List Value} {e : TypeId} {k : Nat} {t : TypeId} {cs : List Value} {fuel : Nat} {x : DataW H × List MemPlace} (ht : P.underlying t = some (.slice e)) (ho : Opn P E e) (hz : ∀ x, (E x).length = k) (hk : P.cellsOf e = k) (hk0 : 0 < k)
    (hf : DataW.trod enc P w base spare held fuel t cs = some x) :
    ∃ (a : Option Addr) (n c : Nat) (l : List R), cs = [.slice a n c] ∧ l.length = n ∧ n ≤ c ∧ c ≤ maxLen ∧ Rds w a (l.flatMap E) := by
  rcases Go.Deep.open_slice ht hf with ⟨rfl, _⟩ | ⟨a', n, c, m, fu, D, Pl, rfl, hb, hl, hm, hmm, hx, hi⟩
  · exact ⟨none, 0, 0, [], rfl, rfl, Nat.le_refl _, Nat.zero_le _, Rds.nil _ _⟩
  · have hmn : n ≤ m := by split at hmm <;> omega
    have hall : ∀ i, i < n → ∃ x : R, w.cells? base (a'.add (i * k)) k = some (E x) ∧ (E x).length = k := fun i hin => by
      obtain ⟨cs', hc, ht'⟩ := hi i (by omega)
      rw [hk] at hc
      obtain ⟨x, rfl⟩ := ho _ _ _ _ _ _ _ _ ht'
      exact ⟨x, hc, (World.cells?_some hc).2.1⟩
    obtain ⟨l, hlen, hget⟩ : ∃ l : List R, l.length = n ∧ ∀ i (h : i < n), ∃ x, l[i]? = some x ∧ w.cells? base (a'.add (i * k)) k = some (E x) ∧ (E x).length = k := by
      clear hmm hx hi hf hl hmn
      induction n with
      | zero => exact ⟨[], rfl, fun i h => absurd h (by omega)⟩
      | succ n ih =>
        obtain ⟨l, h1, h2⟩ := ih (fun i hi => hall i (by omega))
        obtain ⟨x, hx, hxl⟩ := hall n (by omega)
        refine ⟨l ++ [x], by simp [h1], fun i hi => ?_⟩
        by_cases e : i < n
        · rw [List.getElem?_append_left (by omega)]; exact h2 i e
        · obtain rfl : i = n := by omega
          exact ⟨x, by rw [← h1]; simp, hx, hxl⟩
    refine ⟨_, _, _, l, rfl, hlen, hl, hm, ?_⟩
    intro j u hj
    obtain ⟨i, f, x, rfl, hfk, hx, hu⟩ := fl_split hz l j hj
    have hin : i < n := by rw [← hlen]; exact (List.getElem?_eq_some_iff.1 hx).1
    obtain ⟨x', hx', hc, -⟩ := hget i hin
    obtain rfl : x' = x := by rw [hx] at hx'; exact (Option.some.inj hx').symm
    have hcell := (World.cells?_some hc).2.2 f hfk
    rw [hu] at hcell
    obtain ⟨b, off, spot⟩ := a'
    have hspot : spot = none := by
      obtain ⟨x0, -, hc0, hl0⟩ := hget 0 (by omega)
      have h0 := (World.cells?_some hc0).2.2 0 (by omega)
      rw [List.getElem?_eq_getElem (by omega)] at h0
      simpa [Addr.add] using World.cell?_spot h0
    subst hspot
    refine ⟨rfl, ?_⟩
    simp only [aB, aO]
    rw [← hcell, Go.WideShapes.add_plain, Go.WideShapes.add_plain, Nat.add_assoc]
end
theorem cells86 : Try.prog.cellsOf 86 = 6 := by kernel_rfl
theorem opn_op : Opn Try.prog opcV 86 := fun enc w base spare held fuel cs x h => by
  obtain ⟨xs, n, -, -, hlen, hxl, hf⟩ := DataW.trod_struct Try.underlying86 h
  rw [cells86] at hlen
  match cs, hlen with
  | [c0, c1, c2, c3, c4, c5], _ =>
    match xs, hxl with
    | [y0, y1, y2, y3, y4, y5], _ =>
      obtain ⟨r0, e0⟩ := opn_i64 Try.underlying3 enc w base spare held n _ _ (hf 0 _ rfl)
      obtain ⟨r1, e1⟩ := opn_i64 Try.underlying3 enc w base spare held n _ _ (hf 1 _ rfl)
      obtain ⟨r2, e2⟩ := opn_i64 Try.underlying3 enc w base spare held n _ _ (hf 2 _ rfl)
      obtain ⟨r3, e3⟩ := opn_i64 Try.underlying3 enc w base spare held n _ _ (hf 3 _ rfl)
      obtain ⟨r4, e4⟩ := opn_i64 Try.underlying3 enc w base spare held n _ _ (hf 4 _ rfl)
      obtain ⟨r5, e5⟩ := opn_i64 Try.underlying2 enc w base spare held n _ _ (hf 5 _ rfl)
      simp [cells3, cells2] at e0 e1 e2 e3 e4 e5
      subst e0 e1 e2 e3 e4 e5
      exact ⟨⟨r0.toInt, r1.toInt, r2.toInt, r3.toInt, r4.toInt, r5⟩, rfl⟩
theorem cells82 : Try.prog.cellsOf 82 = 1 := by kernel_rfl
theorem cells84 : Try.prog.cellsOf 84 = 4 := by kernel_rfl
structure PrA where
  k : Int64
  a1 : Option Addr
  n1 : Nat
  c1 : Nat
  l1 : List Opc
  a2 : Option Addr
  n2 : Nat
  c2 : Nat
  l2 : List Opc
  a3 : Option Addr
  n3 : Nat
  c3 : Nat
  l3 : List Opc
@[reducible] def PrA.v (x : PrA) : List Value := [.int .i64 x.k.toInt, .slice x.a1 x.n1 x.c1, .slice x.a2 x.n2 x.c2, .slice x.a3 x.n3 x.c3]
structure PrA.At (x : PrA) (w : World) : Prop where
  hl1 : x.l1.length = x.n1
  hr1 : Rds w x.a1 (x.l1.flatMap opcV)
  hm1 : x.n1 ≤ 9223372036854775807
  hl2 : x.l2.length = x.n2
  hr2 : Rds w x.a2 (x.l2.flatMap opcV)
  hm2 : x.n2 ≤ 9223372036854775807
  hl3 : x.l3.length = x.n3
  hr3 : Rds w x.a3 (x.l3.flatMap opcV)
  hm3 : x.n3 ≤ 9223372036854775807
theorem opn_prog {H : Type} {enc : TypeId × Value → H} {w : World} {base : Nat} {spare : Nat → Bool} {held : Bool} {fuel : Nat} {cs : List Value} {y : DataW H × List MemPlace} (h : DataW.trod enc Try.prog w base spare held fuel 84 cs = some y) : ∃ x : PrA, cs = x.v ∧ x.At w := by
  obtain ⟨xs, n, -, -, hlen, hxl, hf⟩ := DataW.trod_struct Try.underlying84 h
  rw [cells84] at hlen
  match cs, hlen with
  | [c0, c1, c2, c3], _ =>
    match xs, hxl with
    | [y0, y1, y2, y3], _ =>
      obtain ⟨r0, e0⟩ := opn_i64 Try.underlying3 enc w base spare held n _ _ (hf 0 _ rfl)
      obtain ⟨a1, n1, d1, l1, e1, g1, m1, k1, r1⟩ := cell_slice Try.underlying82 opn_op opcV_len cells86 (by decide) (hf 1 _ rfl)
      obtain ⟨a2, n2, d2, l2, e2, g2, m2, k2, r2⟩ := cell_slice Try.underlying82 opn_op opcV_len cells86 (by decide) (hf 2 _ rfl)
      obtain ⟨a3, n3, d3, l3, e3, g3, m3, k3, r3⟩ := cell_slice Try.underlying82 opn_op opcV_len cells86 (by decide) (hf 3 _ rfl)
      simp [cells3, cells82] at e0 e1 e2 e3
      subst e0 e1 e2 e3
      exact ⟨⟨r0, a1, n1, d1, l1, a2, n2, d2, l2, a3, n3, d3, l3⟩, rfl, g1, r1, Nat.le_trans m1 k1, g2, r2, Nat.le_trans m2 k2, g3, r3, Nat.le_trans m3 k3⟩
structure PairA where
  u : Int64
  v : Int64
@[reducible] def pairV (x : PairA) : List Value := [.int .i64 x.u.toInt, .int .i64 x.v.toInt]
theorem pairV_len (x : PairA) : (pairV x).length = 2 := rfl
theorem cells89 : Try.prog.cellsOf 89 = 2 := by kernel_rfl
theorem opn_pair : Opn Try.prog pairV 89 := fun enc w base spare held fuel cs x h => by
  obtain ⟨xs, n, -, -, hlen, hxl, hf⟩ := DataW.trod_struct Try.underlying89 h
  rw [cells89] at hlen
  match cs, hlen with
  | [c0, c1], _ =>
    match xs, hxl with
    | [y0, y1], _ =>
      obtain ⟨r0, e0⟩ := opn_i64 Try.underlying2 enc w base spare held n _ _ (hf 0 _ rfl)
      obtain ⟨r1, e1⟩ := opn_i64 Try.underlying2 enc w base spare held n _ _ (hf 1 _ rfl)
      simp [cells2] at e0 e1
      subst e0 e1
      exact ⟨⟨r0, r1⟩, rfl⟩
end Go.Proofs.Ytldkjjnjdjfipaa
namespace Go.Proofs.Ytldkjjnjdjfipaa
open Go Go.RowKit Go.ChangeShapes Go.WideShapes Go.ChangeAt
set_option linter.unusedVariables false
set_option linter.unusedSimpArgs false
set_option maxRecDepth 10000
theorem opn_bytes {P : Program} {H : Type} {enc : TypeId × Value → H} {w : World} {base : Nat} {spare : Nat → Bool} {held : Bool} {fuel : Nat} {t e : TypeId} {n : Nat} {cs : List Value} {y : DataW H × List MemPlace}
    (ht : P.underlying t = some (.array n e)) (he : P.underlying e = some (.int .u8)) (hk : P.cellsOf e = 1) (hkt : P.cellsOf t = n) (hf : DataW.trod enc P w base spare held fuel t cs = some y) :
    ∃ x : List UInt8, cs = x.flatMap byteV ∧ x.length = n := by
  obtain ⟨xs, m, -, -, hlen, hxl, hall⟩ := DataW.trod_array ht hf
  rw [hkt] at hlen
  have key : ∀ (j : Nat), j ≤ n → ∃ x : List UInt8, cs.take j = x.flatMap byteV ∧ x.length = j := fun j => by
    induction j with
    | zero => intro _; exact ⟨[], by simp, rfl⟩
    | succ j ih =>
      intro hj
      obtain ⟨x, h1, h2⟩ := ih (by omega)
      have h3 := hall j (by omega)
      rw [hk, Nat.mul_one] at h3
      have hx : ∃ y, xs[j]? = some y := ⟨xs[j], List.getElem?_eq_getElem (by omega)⟩
      obtain ⟨y, hy⟩ := hx
      rw [hy] at h3
      obtain ⟨b, hb⟩ := opn_u8 he enc w base spare held m _ _ h3
      refine ⟨x ++ [b], ?_, by simp [h2]⟩
      have e1 : cs.take (j + 1) = cs.take j ++ (cs.drop j).take 1 := by rw [← List.take_add]
      rw [e1, h1, hb]
      simp
  obtain ⟨x, h1, h2⟩ := key n (Nat.le_refl _)
  exact ⟨x, by rw [← h1, List.take_of_length_le (by omega)], h2⟩
structure JobA where
  pre : List Value
  g : PrA
  p0 : Int64
  p1 : Int64
  p2 : Int64
  p3 : Int64
  ia : Option Addr
  inn : Nat
  ic : Nat
  lj : List PairA
@[reducible] def JobA.v (x : JobA) : List Value := pj x.pre [.int .i64 x.g.k.toInt, .slice x.g.a1 x.g.n1 x.g.c1, .slice x.g.a2 x.g.n2 x.g.c2, .slice x.g.a3 x.g.n3 x.g.c3, .int .i64 x.p0.toInt, .int .i64 x.p1.toInt, .int .i64 x.p2.toInt, .int .i64 x.p3.toInt, .slice x.ia x.inn x.ic]
structure JobA.At (x : JobA) (w : World) : Prop where
  hpre : x.pre.length = 33
  hpo : x.pre.all Value.oneCell' = true
  hg : x.g.At w
  hni : x.lj.length = x.inn
  hri : Rds w x.ia (x.lj.flatMap pairV)
  hbi : x.inn ≤ 9223372036854775807
  hci : x.inn ≤ x.ic
theorem cells155 : Try.prog.cellsOf 155 = 42 := by kernel_rfl
theorem cells30 : Try.prog.cellsOf 30 = 32 := by kernel_rfl
theorem cells24 : Try.prog.cellsOf 24 = 1 := by kernel_rfl
theorem cells153 : Try.prog.cellsOf 153 = 1 := by kernel_rfl
theorem cells5 : Try.prog.cellsOf 5 = 1 := by kernel_rfl
theorem cut5 {α : Type} {cs : List α} (h : cs.length = 42) : cs = ((cs.drop 0).take 32 ++ (cs.drop 32).take 1) ++ ((cs.drop 33).take 4 ++ (cs.drop 37).take 4 ++ (cs.drop 41).take 1) := by
  have e : ∀ k n, cs.drop k = (cs.drop k).take n ++ cs.drop (k + n) := fun k n => by rw [← List.drop_drop, List.take_append_drop]
  have h1 := e 0 32
  have h2 := e 32 1
  have h3 := e 33 4
  have h4 := e 37 4
  rw [show cs.drop 41 = (cs.drop 41).take 1 by rw [List.take_of_length_le (by rw [List.length_drop]; omega)]] at h4
  rw [h4] at h3
  rw [h3] at h2
  rw [Nat.zero_add, h2] at h1
  rw [List.drop_zero] at h1
  conv => lhs; rw [h1]
  simp only [List.append_assoc, List.drop_zero]
theorem opn_job {H : Type} {enc : TypeId × Value → H} {w : World} {base : Nat} {spare : Nat → Bool} {held : Bool} {fuel : Nat} {cs : List Value} {y : DataW H × List MemPlace} (h : DataW.trod enc Try.prog w base spare held fuel 155 cs = some y) : ∃ x : JobA, cs = x.v ∧ x.At w := by
  obtain ⟨xs, n, -, -, hlen, hxl, hf⟩ := DataW.trod_struct Try.underlying155 h
  rw [cells155] at hlen
  match xs, hxl with
  | [y0, y1, y2, y3, y4], _ =>
    have f0 := hf 0 _ rfl
    have f1 := hf 1 _ rfl
    have f2 := hf 2 _ rfl
    have f3 := hf 3 _ rfl
    have f4 := hf 4 _ rfl
    obtain ⟨bs, e0, hbs⟩ := opn_bytes Try.underlying30 Try.underlying5 cells5 cells30 f0
    obtain ⟨r1, e1⟩ := opn_u64 Try.underlying24 enc w base spare held n _ _ f1
    obtain ⟨g, e2, hg⟩ := opn_prog f2
    obtain ⟨p, e3⟩ := opn_par enc w base spare held n _ _ f3
    obtain ⟨ia, inn, ic, lj, e4, g1, m1, k1, r4⟩ := cell_slice Try.underlying153 opn_pair pairV_len cells89 (by decide) f4
    obtain ⟨q0, q1, q2, q3, hp⟩ : ∃ q0 q1 q2 q3 : Int64, parV p = [.int .i64 q0.toInt, .int .i64 q1.toInt, .int .i64 q2.toInt, .int .i64 q3.toInt] := by
      obtain ⟨zs, n2, -, -, zlen, zl, zf⟩ := DataW.trod_struct Try.underlying53 f3
      rw [e3] at zf
      match zs, zl with
      | [z0, z1, z2, z3], _ =>
        obtain ⟨w0, d0⟩ := opn_i64 Try.underlying3 enc w base spare held n2 _ _ (zf 0 _ rfl)
        obtain ⟨w1, d1⟩ := opn_i64 Try.underlying3 enc w base spare held n2 _ _ (zf 1 _ rfl)
        obtain ⟨w2, d2⟩ := opn_i64 Try.underlying3 enc w base spare held n2 _ _ (zf 2 _ rfl)
        obtain ⟨w3, d3⟩ := opn_i64 Try.underlying3 enc w base spare held n2 _ _ (zf 3 _ rfl)
        simp [cells3] at d0 d1 d2 d3
        exact ⟨w0, w1, w2, w3, by simp [parV, d0, d1, d2, d3]⟩
    rw [hp] at e3
    have hc := cut5 hlen
    replace e0 : List.take (Try.prog.cellsOf 30) (List.drop 0 cs) = bs.flatMap byteV := e0
    replace e1 : List.take (Try.prog.cellsOf 24) (List.drop 32 cs) = u64V r1 := e1
    replace e2 : List.take (Try.prog.cellsOf 84) (List.drop 33 cs) = g.v := e2
    replace e3 : List.take (Try.prog.cellsOf 53) (List.drop 37 cs) = [.int .i64 q0.toInt, .int .i64 q1.toInt, .int .i64 q2.toInt, .int .i64 q3.toInt] := e3
    replace e4 : List.take (Try.prog.cellsOf 153) (List.drop 41 cs) = [.slice ia inn ic] := e4
    rw [cells30] at e0
    rw [cells24] at e1
    rw [cells84] at e2
    rw [cells53] at e3
    rw [cells153] at e4
    refine ⟨⟨bs.flatMap byteV ++ u64V r1, g, q0, q1, q2, q3, ia, inn, ic, lj⟩, ?_, ?_, ?_, hg, g1, r4, Nat.le_trans m1 k1, m1⟩
    · rw [hc]
      show (_ ++ _) ++ (_ ++ _ ++ _) = (bs.flatMap byteV ++ u64V r1) ++ _
      congr 1
      · congr 1
      · show (List.take 4 (List.drop 33 cs) ++ List.take 4 (List.drop 37 cs)) ++ List.take 1 (List.drop 41 cs) = _
        have a2 : List.take 4 (List.drop 33 cs) = g.v := e2
        have a3 : List.take 4 (List.drop 37 cs) = [.int .i64 q0.toInt, .int .i64 q1.toInt, .int .i64 q2.toInt, .int .i64 q3.toInt] := e3
        have a4 : List.take 1 (List.drop 41 cs) = [.slice ia inn ic] := e4
        rw [a2, a3, a4]
        rfl
    · show (bs.flatMap byteV ++ u64V r1).length = 33
      rw [List.length_append, fl_len byteV_len, hbs]
      rfl
    · show (bs.flatMap byteV ++ u64V r1).all Value.oneCell' = true
      rw [List.all_append, fl_one byteV_one]
      rfl
theorem arg_job {H : Type} {enc : TypeId × Value → H} {w : World} {base : Nat} {spare : Nat → Bool} {held : Bool} {r : Reach} {b0 : Nat} {v : Value} {d : DataW H} {ps : List MemPlace}
    (hval : Value.okWide Try.prog w r b0 155 v) (hd : DataW.Trod enc Try.prog w base spare held 155 v d ps) : ∃ x : JobA, v = .agg x.v.toArray ∧ x.At w := by
  obtain ⟨cs, rfl, -⟩ := okWide_struct Try.underlying155 hval
  obtain ⟨fuel, hf⟩ := hd
  obtain ⟨x, hx, hat⟩ := opn_job hf
  refine ⟨x, ?_, hat⟩
  simp only [Value.cells] at hx
  rw [← hx]
end Go.Proofs.Ytldkjjnjdjfipaa
