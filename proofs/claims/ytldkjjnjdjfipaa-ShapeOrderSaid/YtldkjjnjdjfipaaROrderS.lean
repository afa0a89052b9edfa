/- WHATEVER THE INPUT: 'dominolaw17.ShapeOrder' returns true, and each argument reads behind the call as it read before. No condition. -/
import Derived.Test.YtldkjjnjdjfipaaRowS
import Derived.Test.YtldkjjnjdjfipaaWLaw17o
namespace Go.Proofs.Ytldkjjnjdjfipaa
open Go Go.RowKit Go.ChangeShapes Go.WideShapes Go.ChangeAt
set_option linter.unusedVariables false

namespace shapeOrder
set_option maxRecDepth 100000 in
theorem lifted (os : Os) (started : os.Started) (H : Type) (enc : TypeId × Value → H) :
    ReturnsInHanded {} Try.checked os 36 .any (Rows.shapeOrderSpec.pre6 enc Try.prog Try.f36 Rows.shapeOrderRow.domain false) (Rows.shapeOrderSpec.post enc Try.prog Try.f36 false true false false) := by
  refine returnsInHanded_of_change (C := Try.checked) rowOwn started (by kernel_rfl) Try.func36
    (ChangeSpec.witness6 (enc := enc) (C := Try.checked) false ⟨#[], #[.agg #[.int .i64 0, .int .i64 0, .int .i64 0, .int .i64 0]], []⟩ 8 (by kernel_rfl) (by kernel_rfl) (by kernel_rfl) (by kernel_rfl)) ?_
  intro W base args ds gs before hval0 hW hcnd _
  have hval : ∀ (j : Nat) t v, Try.f36.params[j]? = some t → args[j]? = some v → Value.okWide Try.prog W .any base t v := hval0
  have hW' := hW
  obtain ⟨p, q, hA0, hV, rfl, hfz, hnd⟩ := hW
  have hA : DataW.TrodAll enc Try.prog W 0 (fun _ => true) true Try.f36.params.toList args.toList ds p := hA0
  rw [Try.params36] at hA hval
  obtain ⟨v0, vs0, d0, ds0, p0, q0, hargs, rfl, rfl, h0, r0⟩ := trodAll_cons hA
  obtain ⟨rfl, rfl, rfl⟩ := trodAll_nil r0
  obtain rfl : args = #[v0] := by cases args; simp_all
  obtain ⟨rfl, rfl⟩ := trodVars_none hV
  have lt0 : ∀ x ∈ p0, x.block < W.heap.size := by obtain ⟨m, hm⟩ := h0; exact DataW.trod_lt m _ _ _ hm
  obtain ⟨x0, e0⟩ := arg_agg Try.underlying53 opn_par (hval 0 53 v0 rfl rfl) h0
  have walk := order_law x0 W
  subst e0
  refine walk.mono fun e W' ⟨he, hs⟩ => ?_
  have bel := SH.below hs
  subst he
  exact ⟨_, rfl, _, _, _, [], _, [], hW', trodAll_mk1 (shut_bool Try.underlying4 _), (trodAll_cons_mk (Below.trod rowLaid (by kernel_rfl) (of_decide_eq_true (by kernel_rfl)) h0 bel lt0) trodAll_mk0), rfl, bel.frame _, fun h => by cases h⟩
theorem o1 : Rows.shapeOrderRow.wf (OpenSpec.ofChange Rows.shapeOrderSpec) = true := by kernel_rfl
theorem o4 : Try.f36.params.all (Try.prog.readableRec ·) = true := by kernel_rfl
theorem o10 : (Rows.shapeOrderRow.inPlace == Try.prog.inPlace 36) = true := by kernel_rfl
theorem o11 : (Rows.shapeOrderRow.unfollowed == Try.prog.unfollowed 36) = true := by kernel_rfl
theorem o12 : (Rows.shapeOrderRow.recurses == Try.prog.recurses 36) = true := by kernel_rfl
theorem o13 : (Rows.shapeOrderRow.named == Try.prog.varsNamed 36) = true := by kernel_rfl
theorem closed : joinedFacts Try.prog 36 Try.f36 Rows.shapeOrderSpec Rows.shapeOrderRow = true :=
  joined_mk o1 row2 row3 o4 (by kernel_rfl) (by kernel_rfl) row7 (by kernel_rfl) row9 o10 o11 o12 o13 (by kernel_rfl) (by kernel_rfl) (by kernel_rfl) (by kernel_rfl) (by kernel_rfl) (by kernel_rfl) (by kernel_rfl) (by kernel_rfl) (by kernel_rfl) row23 (by kernel_rfl) row25 row26 row27 row28 (by kernel_rfl) (by kernel_rfl) (by kernel_rfl) (by kernel_rfl)
theorem over : Rows.shapeOrderRow.holds Try.pinned (OpenSpec.ofChange Rows.shapeOrderSpec) :=
  OpenClaim.holds_of_wide 36 Try.f36 rfl rfl rfl rfl rfl rfl rfl ⟨rfl, rfl, rfl, rfl, rfl⟩ rfl rfl rfl rfl rfl (by kernel_rfl) Try.func36 closed
    (of_decide_eq_true (by kernel_rfl)) (by unfold Func.isWrapper; first | (rw [if_pos (by decide +kernel)]; kernel_rfl) | (rw [if_neg (by decide +kernel)]; exact ⟨rfl, rfl⟩))
    (fun os started H enc _ => lifted os started H enc)
/-- The statement. -/
theorem proved : Rows.ShapeOrderSaid := over
#print axioms proved
end shapeOrder
end Go.Proofs.Ytldkjjnjdjfipaa
