/- WHATEVER THE INPUT: 'dominolaw19.WireCounts' returns true, and each argument reads behind the call as it read before. No condition. -/
import Derived.Test.YtldkjjnjdjfipaaRow
import Derived.Test.YtldkjjnjdjfipaaWLaw19c
namespace Go.Proofs.Ytldkjjnjdjfipaa
open Go Go.RowKit Go.ChangeShapes Go.WideShapes Go.ChangeAt
set_option linter.unusedVariables false

namespace wireCounts
set_option maxRecDepth 100000 in
theorem lifted (os : Os) (started : os.Started) (H : Type) (enc : TypeId × Value → H) :
    ReturnsInHanded {} Try.checked os 32 .any (Rows.wireCountsSpec.pre6 enc Try.prog Try.f32 Rows.wireCountsRow.domain false) (Rows.wireCountsSpec.post enc Try.prog Try.f32 false true false false) := by
  refine returnsInHanded_of_change (C := Try.checked) rowOwn started (by kernel_rfl) Try.func32
    (ChangeSpec.witness6 (enc := enc) (C := Try.checked) false ⟨#[], #[.slice none 0 0], []⟩ 8 (by kernel_rfl) (by kernel_rfl) (by kernel_rfl) (by kernel_rfl)) ?_
  intro W base args ds gs before hval0 hW hcnd _
  have hval : ∀ (j : Nat) t v, Try.f32.params[j]? = some t → args[j]? = some v → Value.okWide Try.prog W .any base t v := hval0
  have hW' := hW
  obtain ⟨p, q, hA0, hV, rfl, hfz, hnd⟩ := hW
  have hA : DataW.TrodAll enc Try.prog W 0 (fun _ => true) true Try.f32.params.toList args.toList ds p := hA0
  rw [Try.params32] at hA hval
  obtain ⟨v0, vs0, d0, ds0, p0, q0, hargs, rfl, rfl, h0, r0⟩ := trodAll_cons hA
  obtain ⟨rfl, rfl, rfl⟩ := trodAll_nil r0
  obtain rfl : args = #[v0] := by cases args; simp_all
  obtain ⟨rfl, rfl⟩ := trodVars_none hV
  have lt0 : ∀ x ∈ p0, x.block < W.heap.size := by obtain ⟨m, hm⟩ := h0; exact DataW.trod_lt m _ _ _ hm
  obtain ⟨a0, n0, c0, x0, e0, hl0, hn0, hc0, hr0⟩ := arg_slice Try.underlying39 (opn_i64 Try.underlying3) i64V_len (by kernel_rfl) (hval 0 39 v0 rfl rfl) h0
  have walk := counts19_law a0 n0 c0 (x0.map Int64.toInt) W (by rw [List.length_map]; exact hl0) (by rw [List.flatMap_map]; exact hr0)
  subst e0
  refine walk.mono fun e W' ⟨he, hs⟩ => ?_
  have bel := SH.below hs
  subst he
  exact ⟨_, rfl, _, _, _, [], _, [], hW', trodAll_mk1 (shut_bool Try.underlying4 _), (trodAll_cons_mk (Below.trod rowLaid (by kernel_rfl) (of_decide_eq_true (by kernel_rfl)) h0 bel lt0) trodAll_mk0), rfl, bel.frame _, fun h => by cases h⟩
theorem o1 : Rows.wireCountsRow.wf (OpenSpec.ofChange Rows.wireCountsSpec) = true := by kernel_rfl
theorem o4 : Try.f32.params.all (Try.prog.readableRec ·) = true := by kernel_rfl
theorem o10 : (Rows.wireCountsRow.inPlace == Try.prog.inPlace 32) = true := by kernel_rfl
theorem o11 : (Rows.wireCountsRow.unfollowed == Try.prog.unfollowed 32) = true := by kernel_rfl
theorem o12 : (Rows.wireCountsRow.recurses == Try.prog.recurses 32) = true := by kernel_rfl
theorem o13 : (Rows.wireCountsRow.named == Try.prog.varsNamed 32) = true := by kernel_rfl
theorem closed : joinedFacts Try.prog 32 Try.f32 Rows.wireCountsSpec Rows.wireCountsRow = true :=
  joined_mk o1 row2 row3 o4 (by kernel_rfl) (by kernel_rfl) row7 (by kernel_rfl) row9 o10 o11 o12 o13 (by kernel_rfl) (by kernel_rfl) (by kernel_rfl) (by kernel_rfl) (by kernel_rfl) (by kernel_rfl) (by kernel_rfl) (by kernel_rfl) (by kernel_rfl) row23 (by kernel_rfl) row25 row26 row27 row28 (by kernel_rfl) (by kernel_rfl) (by kernel_rfl) (by kernel_rfl)
theorem over : Rows.wireCountsRow.holds Try.pinned (OpenSpec.ofChange Rows.wireCountsSpec) :=
  OpenClaim.holds_of_wide 32 Try.f32 rfl rfl rfl rfl rfl rfl rfl ⟨rfl, rfl, rfl, rfl, rfl⟩ rfl rfl rfl rfl rfl (by kernel_rfl) Try.func32 closed
    (of_decide_eq_true (by kernel_rfl)) (by unfold Func.isWrapper; first | (rw [if_pos (by decide +kernel)]; kernel_rfl) | (rw [if_neg (by decide +kernel)]; exact ⟨rfl, rfl⟩))
    (fun os started H enc _ => lifted os started H enc)
/-- The statement. -/
theorem proved : Rows.WireCountsSaid := over
#print axioms proved
end wireCounts
end Go.Proofs.Ytldkjjnjdjfipaa
