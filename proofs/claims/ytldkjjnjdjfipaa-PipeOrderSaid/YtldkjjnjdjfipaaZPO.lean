/- WHATEVER THE INPUT: 'dominolaw16.PipeOrder' returns true, and each argument reads behind the call as it read before. No condition. -/
import Derived.WalkKit
import Derived.WalkSpells
import Derived.WalkLawsBesides
import Derived.TacticsIn
import Derived.OrdersIn
import Derived.RangeFuncIn
import Derived.RangeFuncLeaves
import Derived.RangeFuncRecord
import Derived.KernelRfl
import Derived.Maps.AppendAt
import Derived.Laws.Cover3
import Derived.Laws.MakeOwn
import Derived.Test.YtldkjjnjdjfipaaRows
import Derived.ProofKit
import Derived.OpenShut
import Derived.ShutString
import Derived.ChangeOld
import Derived.Below
import Derived.Deep.Slices
import Derived.Test.YtldkjjnjdjfipaaZPO6
namespace Go.Proofs.Ytldkjjnjdjfipaa
open Go Go.RowKit Go.ChangeShapes Go.WideShapes Go.ChangeAt
set_option linter.unusedVariables false
namespace pipeOrder
set_option maxRecDepth 100000 in
theorem lifted (os : Os) (started : os.Started) (H : Type) (enc : TypeId × Value → H) :
    ReturnsInHanded {} Try.checked os 39 .any (Rows.pipeOrderSpec.pre6 enc Try.prog Try.f39 Rows.pipeOrderRow.domain false) (Rows.pipeOrderSpec.post enc Try.prog Try.f39 false true false false) := by
  refine returnsInHanded_of_change (C := Try.checked) rowOwn started (by kernel_rfl) Try.func39
    (ChangeSpec.witness6 (enc := enc) (C := Try.checked) false ⟨#[], #[.slice none 0 0, .slice none 0 0, .int .i64 0], []⟩ 8 (by kernel_rfl) (by kernel_rfl) (by kernel_rfl) (by kernel_rfl)) ?_
  intro W base args ds gs before hval0 hW hcnd _
  have hval : ∀ (j : Nat) t v, Try.f39.params[j]? = some t → args[j]? = some v → Value.okWide Try.prog W .any base t v := hval0
  have hW' := hW
  obtain ⟨p, q, hA0, hV, rfl, hfz, hnd⟩ := hW
  have hA : DataW.TrodAll enc Try.prog W 0 (fun _ => true) true Try.f39.params.toList args.toList ds p := hA0
  rw [Try.params39] at hA hval
  obtain ⟨v0, vs0, d0, ds0, p0, q0, hargs, rfl, rfl, h0, r0⟩ := trodAll_cons hA
  obtain ⟨v1, vs1, d1, ds1, p1, q1, rfl, rfl, rfl, h1, r1⟩ := trodAll_cons r0
  obtain ⟨v2, vs2, d2, ds2, p2, q2, rfl, rfl, rfl, h2, r2⟩ := trodAll_cons r1
  obtain ⟨rfl, rfl, rfl⟩ := trodAll_nil r2
  obtain rfl : args = #[v0, v1, v2] := by cases args; simp_all
  obtain ⟨rfl, rfl⟩ := trodVars_none hV
  have lt0 : ∀ x ∈ p0, x.block < W.heap.size := by obtain ⟨m, hm⟩ := h0; exact DataW.trod_lt m _ _ _ hm
  obtain ⟨a0, n0, c0, x0, e0, hl0, hn0, hc0, hr0⟩ := arg_slice Try.underlying153 opn_pair pairV_len (by kernel_rfl) (hval 0 153 v0 rfl rfl) h0
  have lt1 : ∀ x ∈ p1, x.block < W.heap.size := by obtain ⟨m, hm⟩ := h1; exact DataW.trod_lt m _ _ _ hm
  obtain ⟨a1, n1, c1, x1, e1, hl1, hn1, hc1, hr1⟩ := arg_slice Try.underlying39 (opn_i64 Try.underlying3) i64V_len (by kernel_rfl) (hval 1 39 v1 rfl rfl) h1
  have lt2 : ∀ x ∈ p2, x.block < W.heap.size := by obtain ⟨m, hm⟩ := h2; exact DataW.trod_lt m _ _ _ hm
  obtain ⟨x2, e2⟩ := arg_i64 Try.underlying3 (hval 2 3 v2 rfl rfl) h2
  have walk := porder_law a0 n0 c0 (x0.map fun p => (p.u, p.v)) a1 n1 c1 (x1.map Int64.toInt) x2.toInt (Int64.le_toInt x2) (Int64.toInt_lt x2) W (by rw [List.length_map]; exact hl0) (by rw [List.flatMap_map]; exact hr0) (by rw [List.length_map]; exact hl1) (by rw [List.flatMap_map]; exact hr1)
  subst e0 e1 e2
  refine walk.mono fun e W' ⟨he, hs⟩ => ?_
  have bel := SH.below hs
  subst he
  exact ⟨_, rfl, _, _, _, [], _, [], hW', trodAll_mk1 (shut_bool Try.underlying4 _), (trodAll_cons_mk (Below.trod rowLaid (by kernel_rfl) (of_decide_eq_true (by kernel_rfl)) h0 bel lt0) (trodAll_cons_mk (Below.trod rowLaid (by kernel_rfl) (of_decide_eq_true (by kernel_rfl)) h1 bel lt1) (trodAll_cons_mk (Below.trod rowLaid (by kernel_rfl) (of_decide_eq_true (by kernel_rfl)) h2 bel lt2) trodAll_mk0))), rfl, bel.frame _, fun h => by cases h⟩
theorem o1 : Rows.pipeOrderRow.wf (OpenSpec.ofChange Rows.pipeOrderSpec) = true := by kernel_rfl
theorem o4 : Try.f39.params.all (Try.prog.readableRec ·) = true := by kernel_rfl
theorem o10 : (Rows.pipeOrderRow.inPlace == Try.prog.inPlace 39) = true := by kernel_rfl
theorem o11 : (Rows.pipeOrderRow.unfollowed == Try.prog.unfollowed 39) = true := by kernel_rfl
theorem o12 : (Rows.pipeOrderRow.recurses == Try.prog.recurses 39) = true := by kernel_rfl
theorem o13 : (Rows.pipeOrderRow.named == Try.prog.varsNamed 39) = true := by kernel_rfl
theorem closed : joinedFacts Try.prog 39 Try.f39 Rows.pipeOrderSpec Rows.pipeOrderRow = true :=
  joined_mk o1 row2 row3 o4 (by kernel_rfl) (by kernel_rfl) row7 (by kernel_rfl) row9 o10 o11 o12 o13 (by kernel_rfl) (by kernel_rfl) (by kernel_rfl) (by kernel_rfl) (by kernel_rfl) (by kernel_rfl) (by kernel_rfl) (by kernel_rfl) (by kernel_rfl) row23 (by kernel_rfl) row25 row26 row27 row28 (by kernel_rfl) (by kernel_rfl) (by kernel_rfl) (by kernel_rfl)
theorem over : Rows.pipeOrderRow.holds Try.pinned (OpenSpec.ofChange Rows.pipeOrderSpec) :=
  OpenClaim.holds_of_wide 39 Try.f39 rfl rfl rfl rfl rfl rfl rfl ⟨rfl, rfl, rfl, rfl, rfl⟩ rfl rfl rfl rfl rfl (by kernel_rfl) Try.func39 closed
    (of_decide_eq_true (by kernel_rfl)) (by unfold Func.isWrapper; first | (rw [if_pos (by decide +kernel)]; kernel_rfl) | (rw [if_neg (by decide +kernel)]; exact ⟨rfl, rfl⟩))
    (fun os started H enc _ => lifted os started H enc)
theorem proved : Rows.PipeOrderSaid := over
#print axioms proved
end pipeOrder
end Go.Proofs.Ytldkjjnjdjfipaa
