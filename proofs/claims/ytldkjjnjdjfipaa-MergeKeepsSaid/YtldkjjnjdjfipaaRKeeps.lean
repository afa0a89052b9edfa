/- WHATEVER THE INPUT: 'dominolaw14.MergeKeeps' returns true, and each argument reads behind the call as it read before. No condition. -/
import Derived.Test.YtldkjjnjdjfipaaRow
import Derived.Test.YtldkjjnjdjfipaaWLaw14k
namespace Go.Proofs.Ytldkjjnjdjfipaa
open Go Go.RowKit Go.ChangeShapes Go.WideShapes Go.ChangeAt
set_option linter.unusedVariables false

namespace mergeKeeps
set_option maxRecDepth 100000 in
theorem lifted (os : Os) (started : os.Started) (H : Type) (enc : TypeId × Value → H) :
    ReturnsInHanded {} Try.checked os 17 .any (Rows.mergeKeepsSpec.pre6 enc Try.prog Try.f17 Rows.mergeKeepsRow.domain false) (Rows.mergeKeepsSpec.post enc Try.prog Try.f17 false true false false) := by
  refine returnsInHanded_of_change (C := Try.checked) rowOwn started (by kernel_rfl) Try.func17
    (ChangeSpec.witness6 (enc := enc) (C := Try.checked) false ⟨#[], #[.slice none 0 0, .bool false], []⟩ 8 (by kernel_rfl) (by kernel_rfl) (by kernel_rfl) (by kernel_rfl)) ?_
  intro W base args ds gs before hval0 hW hcnd _
  have hval : ∀ (j : Nat) t v, Try.f17.params[j]? = some t → args[j]? = some v → Value.okWide Try.prog W .any base t v := hval0
  have hW' := hW
  obtain ⟨p, q, hA0, hV, rfl, hfz, hnd⟩ := hW
  have hA : DataW.TrodAll enc Try.prog W 0 (fun _ => true) true Try.f17.params.toList args.toList ds p := hA0
  rw [Try.params17] at hA hval
  obtain ⟨v0, vs0, d0, ds0, p0, q0, hargs, rfl, rfl, h0, r0⟩ := trodAll_cons hA
  obtain ⟨v1, vs1, d1, ds1, p1, q1, rfl, rfl, rfl, h1, r1⟩ := trodAll_cons r0
  obtain ⟨rfl, rfl, rfl⟩ := trodAll_nil r1
  obtain rfl : args = #[v0, v1] := by cases args; simp_all
  obtain ⟨rfl, rfl⟩ := trodVars_none hV
  have lt0 : ∀ x ∈ p0, x.block < W.heap.size := by obtain ⟨m, hm⟩ := h0; exact DataW.trod_lt m _ _ _ hm
  obtain ⟨a0, n0, c0, x0, e0, hl0, hn0, hc0, hr0⟩ := arg_slice Try.underlying69 opn_rec recV_len (by kernel_rfl) (hval 0 69 v0 rfl rfl) h0
  have lt1 : ∀ x ∈ p1, x.block < W.heap.size := by obtain ⟨m, hm⟩ := h1; exact DataW.trod_lt m _ _ _ hm
  obtain ⟨x1, e1⟩ := arg_bool Try.underlying4 (hval 1 4 v1 rfl rfl) h1
  have walk := keeps_law a0 n0 c0 x0 x1 W hl0 hr0
  subst e0 e1
  refine walk.mono fun e W' ⟨he, hs⟩ => ?_
  have bel := SH.below hs
  subst he
  exact ⟨_, rfl, _, _, _, [], _, [], hW', trodAll_mk1 (shut_bool Try.underlying4 _), (trodAll_cons_mk (Below.trod rowLaid (by kernel_rfl) (of_decide_eq_true (by kernel_rfl)) h0 bel lt0) (trodAll_cons_mk (Below.trod rowLaid (by kernel_rfl) (of_decide_eq_true (by kernel_rfl)) h1 bel lt1) trodAll_mk0)), rfl, bel.frame _, fun h => by cases h⟩
theorem o1 : Rows.mergeKeepsRow.wf (OpenSpec.ofChange Rows.mergeKeepsSpec) = true := by kernel_rfl
theorem o4 : Try.f17.params.all (Try.prog.readableRec ·) = true := by kernel_rfl
theorem o10 : (Rows.mergeKeepsRow.inPlace == Try.prog.inPlace 17) = true := by kernel_rfl
theorem o11 : (Rows.mergeKeepsRow.unfollowed == Try.prog.unfollowed 17) = true := by kernel_rfl
theorem o12 : (Rows.mergeKeepsRow.recurses == Try.prog.recurses 17) = true := by kernel_rfl
theorem o13 : (Rows.mergeKeepsRow.named == Try.prog.varsNamed 17) = true := by kernel_rfl
theorem closed : joinedFacts Try.prog 17 Try.f17 Rows.mergeKeepsSpec Rows.mergeKeepsRow = true :=
  joined_mk o1 row2 row3 o4 (by kernel_rfl) (by kernel_rfl) row7 (by kernel_rfl) row9 o10 o11 o12 o13 (by kernel_rfl) (by kernel_rfl) (by kernel_rfl) (by kernel_rfl) (by kernel_rfl) (by kernel_rfl) (by kernel_rfl) (by kernel_rfl) (by kernel_rfl) row23 (by kernel_rfl) row25 row26 row27 row28 (by kernel_rfl) (by kernel_rfl) (by kernel_rfl) (by kernel_rfl)
theorem over : Rows.mergeKeepsRow.holds Try.pinned (OpenSpec.ofChange Rows.mergeKeepsSpec) :=
  OpenClaim.holds_of_wide 17 Try.f17 rfl rfl rfl rfl rfl rfl rfl ⟨rfl, rfl, rfl, rfl, rfl⟩ rfl rfl rfl rfl rfl (by kernel_rfl) Try.func17 closed
    (of_decide_eq_true (by kernel_rfl)) (by unfold Func.isWrapper; first | (rw [if_pos (by decide +kernel)]; kernel_rfl) | (rw [if_neg (by decide +kernel)]; exact ⟨rfl, rfl⟩))
    (fun os started H enc _ => lifted os started H enc)
/-- The statement. -/
theorem proved : Rows.MergeKeepsSaid := over
#print axioms proved
end mergeKeeps
end Go.Proofs.Ytldkjjnjdjfipaa
