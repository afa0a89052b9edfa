/- WHATEVER THE INPUT: 'dominolaw19.WireNil' returns true, and each argument reads behind the call as it read before. No condition. -/
import Derived.Test.YtldkjjnjdjfipaaRow
import Derived.Test.YtldkjjnjdjfipaaWWir4
namespace Go.Proofs.Ytldkjjnjdjfipaa
open Go Go.RowKit Go.ChangeShapes Go.WideShapes Go.ChangeAt
set_option linter.unusedVariables false

namespace wireNil
set_option maxRecDepth 100000 in
theorem lifted (os : Os) (started : os.Started) (H : Type) (enc : TypeId × Value → H) :
    ReturnsInHanded {} Try.checked os 34 .any (Rows.wireNilSpec.pre6 enc Try.prog Try.f34 Rows.wireNilRow.domain false) (Rows.wireNilSpec.post enc Try.prog Try.f34 false true false false) := by
  refine returnsInHanded_of_change (C := Try.checked) rowOwn started (by kernel_rfl) Try.func34
    (ChangeSpec.witness6 (enc := enc) (C := Try.checked) false ⟨#[], #[.int .i64 0, .int .i64 0], []⟩ 8 (by kernel_rfl) (by kernel_rfl) (by kernel_rfl) (by kernel_rfl)) ?_
  intro W base args ds gs before hval0 hW hcnd _
  have hval : ∀ (j : Nat) t v, Try.f34.params[j]? = some t → args[j]? = some v → Value.okWide Try.prog W .any base t v := hval0
  have hW' := hW
  obtain ⟨p, q, hA0, hV, rfl, hfz, hnd⟩ := hW
  have hA : DataW.TrodAll enc Try.prog W 0 (fun _ => true) true Try.f34.params.toList args.toList ds p := hA0
  rw [Try.params34] at hA hval
  obtain ⟨v0, vs0, d0, ds0, p0, q0, hargs, rfl, rfl, h0, r0⟩ := trodAll_cons hA
  obtain ⟨v1, vs1, d1, ds1, p1, q1, rfl, rfl, rfl, h1, r1⟩ := trodAll_cons r0
  obtain ⟨rfl, rfl, rfl⟩ := trodAll_nil r1
  obtain rfl : args = #[v0, v1] := by cases args; simp_all
  obtain ⟨rfl, rfl⟩ := trodVars_none hV
  have lt0 : ∀ x ∈ p0, x.block < W.heap.size := by obtain ⟨m, hm⟩ := h0; exact DataW.trod_lt m _ _ _ hm
  obtain ⟨x0, e0⟩ := arg_i64 Try.underlying3 (hval 0 3 v0 rfl rfl) h0
  have lt1 : ∀ x ∈ p1, x.block < W.heap.size := by obtain ⟨m, hm⟩ := h1; exact DataW.trod_lt m _ _ _ hm
  obtain ⟨x1, e1⟩ := arg_i64 Try.underlying3 (hval 1 3 v1 rfl rfl) h1
  have walk := nil_law x0.toInt x1.toInt (Int64.le_toInt x0) (Int64.toInt_lt x0) (Int64.le_toInt x1) (Int64.toInt_lt x1) W
  subst e0 e1
  refine walk.mono fun e W' ⟨he, hs⟩ => ?_
  have bel := SH.below hs
  subst he
  exact ⟨_, rfl, _, _, _, [], _, [], hW', trodAll_mk1 (shut_bool Try.underlying4 _), (trodAll_cons_mk (Below.trod rowLaid (by kernel_rfl) (of_decide_eq_true (by kernel_rfl)) h0 bel lt0) (trodAll_cons_mk (Below.trod rowLaid (by kernel_rfl) (of_decide_eq_true (by kernel_rfl)) h1 bel lt1) trodAll_mk0)), rfl, bel.frame _, fun h => by cases h⟩
theorem o1 : Rows.wireNilRow.wf (OpenSpec.ofChange Rows.wireNilSpec) = true := by kernel_rfl
theorem o4 : Try.f34.params.all (Try.prog.readableRec ·) = true := by kernel_rfl
theorem o10 : (Rows.wireNilRow.inPlace == Try.prog.inPlace 34) = true := by kernel_rfl
theorem o11 : (Rows.wireNilRow.unfollowed == Try.prog.unfollowed 34) = true := by kernel_rfl
theorem o12 : (Rows.wireNilRow.recurses == Try.prog.recurses 34) = true := by kernel_rfl
theorem o13 : (Rows.wireNilRow.named == Try.prog.varsNamed 34) = true := by kernel_rfl
theorem closed : joinedFacts Try.prog 34 Try.f34 Rows.wireNilSpec Rows.wireNilRow = true :=
  joined_mk o1 row2 row3 o4 (by kernel_rfl) (by kernel_rfl) row7 (by kernel_rfl) row9 o10 o11 o12 o13 (by kernel_rfl) (by kernel_rfl) (by kernel_rfl) (by kernel_rfl) (by kernel_rfl) (by kernel_rfl) (by kernel_rfl) (by kernel_rfl) (by kernel_rfl) row23 (by kernel_rfl) row25 row26 row27 row28 (by kernel_rfl) (by kernel_rfl) (by kernel_rfl) (by kernel_rfl)
theorem over : Rows.wireNilRow.holds Try.pinned (OpenSpec.ofChange Rows.wireNilSpec) :=
  OpenClaim.holds_of_wide 34 Try.f34 rfl rfl rfl rfl rfl rfl rfl ⟨rfl, rfl, rfl, rfl, rfl⟩ rfl rfl rfl rfl rfl (by kernel_rfl) Try.func34 closed
    (of_decide_eq_true (by kernel_rfl)) (by unfold Func.isWrapper; first | (rw [if_pos (by decide +kernel)]; kernel_rfl) | (rw [if_neg (by decide +kernel)]; exact ⟨rfl, rfl⟩))
    (fun os started H enc _ => lifted os started H enc)
/-- The statement. -/
theorem proved : Rows.WireNilSaid := over
#print axioms proved
end wireNil
end Go.Proofs.Ytldkjjnjdjfipaa
