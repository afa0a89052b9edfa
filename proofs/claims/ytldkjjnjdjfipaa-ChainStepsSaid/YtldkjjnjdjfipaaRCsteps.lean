/- WHATEVER THE INPUT: 'dominolaw15.ChainSteps' returns true, and each argument reads behind the call as it read before. No condition. -/
import Derived.Test.YtldkjjnjdjfipaaRowG
import Derived.Test.YtldkjjnjdjfipaaWChn5
namespace Go.Proofs.Ytldkjjnjdjfipaa
open Go Go.RowKit Go.ChangeShapes Go.WideShapes Go.ChangeAt
set_option linter.unusedVariables false

namespace chainSteps
set_option maxRecDepth 100000 in
theorem lifted (os : Os) (started : os.Started) (H : Type) (enc : TypeId × Value → H) :
    ReturnsInHanded {} Try.checked os 24 .any (Rows.chainStepsSpec.pre6 enc Try.prog Try.f24 Rows.chainStepsRow.domain false) (Rows.chainStepsSpec.post enc Try.prog Try.f24 false true false false) := by
  refine returnsInHanded_of_change (C := Try.checked) rowOwn started (by kernel_rfl) Try.func24
    (ChangeSpec.witness6 (enc := enc) (C := Try.checked) false ⟨#[], #[.agg #[.int .i64 0, .slice none 0 0, .slice none 0 0, .slice none 0 0], .agg #[.bool false, .int .i64 0, .int .i64 0, .int .i64 0], .slice none 0 0], []⟩ 8 (by kernel_rfl) (by kernel_rfl) (by kernel_rfl) (by kernel_rfl)) ?_
  intro W base args ds gs before hval0 hW hcnd _
  have hval : ∀ (j : Nat) t v, Try.f24.params[j]? = some t → args[j]? = some v → Value.okWide Try.prog W .any base t v := hval0
  have hW' := hW
  obtain ⟨p, q, hA0, hV, rfl, hfz, hnd⟩ := hW
  have hA : DataW.TrodAll enc Try.prog W 0 (fun _ => true) true Try.f24.params.toList args.toList ds p := hA0
  rw [Try.params24] at hA hval
  obtain ⟨v0, vs0, d0, ds0, p0, q0, hargs, rfl, rfl, h0, r0⟩ := trodAll_cons hA
  obtain ⟨v1, vs1, d1, ds1, p1, q1, rfl, rfl, rfl, h1, r1⟩ := trodAll_cons r0
  obtain ⟨v2, vs2, d2, ds2, p2, q2, rfl, rfl, rfl, h2, r2⟩ := trodAll_cons r1
  obtain ⟨rfl, rfl, rfl⟩ := trodAll_nil r2
  obtain rfl : args = #[v0, v1, v2] := by cases args; simp_all
  obtain ⟨rfl, rfl⟩ := trodVars_none hV
  have lt0 : ∀ x ∈ p0, x.block < W.heap.size := by obtain ⟨m, hm⟩ := h0; exact DataW.trod_lt m _ _ _ hm
  obtain ⟨x0, e0, hat0⟩ := arg_prog (hval 0 84 v0 rfl rfl) h0
  have lt1 : ∀ x ∈ p1, x.block < W.heap.size := by obtain ⟨m, hm⟩ := h1; exact DataW.trod_lt m _ _ _ hm
  obtain ⟨x1, e1⟩ := arg_agg Try.underlying23 opn_rec (hval 1 23 v1 rfl rfl) h1
  have lt2 : ∀ x ∈ p2, x.block < W.heap.size := by obtain ⟨m, hm⟩ := h2; exact DataW.trod_lt m _ _ _ hm
  obtain ⟨a2, n2, c2, x2, e2, hl2, hn2, hc2, hr2⟩ := arg_slice Try.underlying69 opn_rec recV_len (by kernel_rfl) (hval 2 69 v2 rfl rfl) h2
  have walk := steps_law x0.k.toInt x0.a1 x0.a2 x0.a3 x0.n1 x0.c1 x0.n2 x0.c2 x0.n3 x0.c3 x0.l1 x0.l2 x0.l3 x1 a2 n2 c2 x2 W hat0.hl1 hat0.hr1 hat0.hm1 hat0.hl2 hat0.hr2 hat0.hm2 hat0.hl3 hat0.hr3 hat0.hm3 hl2 hr2
  subst e0 e1 e2
  refine walk.mono fun e W' ⟨he, hs⟩ => ?_
  have bel := SH.below hs
  subst he
  exact ⟨_, rfl, _, _, _, [], _, [], hW', trodAll_mk1 (shut_bool Try.underlying4 _), (trodAll_cons_mk (Below.trod rowLaid (by kernel_rfl) (of_decide_eq_true (by kernel_rfl)) h0 bel lt0) (trodAll_cons_mk (Below.trod rowLaid (by kernel_rfl) (of_decide_eq_true (by kernel_rfl)) h1 bel lt1) (trodAll_cons_mk (Below.trod rowLaid (by kernel_rfl) (of_decide_eq_true (by kernel_rfl)) h2 bel lt2) trodAll_mk0))), rfl, bel.frame _, fun h => by cases h⟩
theorem o1 : Rows.chainStepsRow.wf (OpenSpec.ofChange Rows.chainStepsSpec) = true := by kernel_rfl
theorem o4 : Try.f24.params.all (Try.prog.readableRec ·) = true := by kernel_rfl
theorem o10 : (Rows.chainStepsRow.inPlace == Try.prog.inPlace 24) = true := by kernel_rfl
theorem o11 : (Rows.chainStepsRow.unfollowed == Try.prog.unfollowed 24) = true := by kernel_rfl
theorem o12 : (Rows.chainStepsRow.recurses == Try.prog.recurses 24) = true := by kernel_rfl
theorem o13 : (Rows.chainStepsRow.named == Try.prog.varsNamed 24) = true := by kernel_rfl
theorem closed : joinedFacts Try.prog 24 Try.f24 Rows.chainStepsSpec Rows.chainStepsRow = true :=
  joined_mk o1 row2 row3 o4 (by kernel_rfl) (by kernel_rfl) row7 (by kernel_rfl) row9 o10 o11 o12 o13 (by kernel_rfl) (by kernel_rfl) (by kernel_rfl) (by kernel_rfl) (by kernel_rfl) (by kernel_rfl) (by kernel_rfl) (by kernel_rfl) (by kernel_rfl) row23 (by kernel_rfl) row25 row26 row27 row28 (by kernel_rfl) (by kernel_rfl) (by kernel_rfl) (by kernel_rfl)
theorem over : Rows.chainStepsRow.holds Try.pinned (OpenSpec.ofChange Rows.chainStepsSpec) :=
  OpenClaim.holds_of_wide 24 Try.f24 rfl rfl rfl rfl rfl rfl rfl ⟨rfl, rfl, rfl, rfl, rfl⟩ rfl rfl rfl rfl rfl (by kernel_rfl) Try.func24 closed
    (of_decide_eq_true (by kernel_rfl)) (by unfold Func.isWrapper; first | (rw [if_pos (by decide +kernel)]; kernel_rfl) | (rw [if_neg (by decide +kernel)]; exact ⟨rfl, rfl⟩))
    (fun os started H enc _ => lifted os started H enc)
/-- The statement. -/
theorem proved : Rows.ChainStepsSaid := over
#print axioms proved
end chainSteps
end Go.Proofs.Ytldkjjnjdjfipaa
