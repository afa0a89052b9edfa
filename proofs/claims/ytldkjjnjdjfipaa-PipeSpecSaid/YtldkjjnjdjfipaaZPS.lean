/- WHATEVER THE INPUT: 'dominolaw16.PipeSpec' returns true, and each argument reads behind the call as it read before. No condition. -/
import Derived.WalkKit
import Derived.WalkSpells
import Derived.WalkLawsBesides
import Derived.TacticsIn
import Derived.OrdersIn
import Derived.RangeFuncIn
import Derived.RangeFuncLeaves
import Derived.RangeFuncRecord
import Derived.KernelRfl
import Derived.Maps.AppendAt
import Derived.Laws.Cover3
import Derived.Laws.MakeOwn
import Derived.Test.YtldkjjnjdjfipaaRows
import Derived.ChangeKeysEq
import Derived.ProofKit
import Derived.OpenShut
import Derived.ShutString
import Derived.ChangeOld
import Derived.Below
import Derived.Deep.Slices
import Derived.Test.YtldkjjnjdjfipaaZPS7
namespace Go.Proofs.Ytldkjjnjdjfipaa
open Go Go.RowKit Go.ChangeShapes Go.WideShapes Go.ChangeAt
set_option linter.unusedVariables false
namespace pipeSpec
set_option maxRecDepth 100000 in
theorem lifted (os : Os) (started : os.Started) (H : Type) (enc : TypeId × Value → H) :
    ReturnsInHanded {} Try.checked os 38 .any (Rows.pipeSpecSpec.pre6 enc Try.prog Try.f38 Rows.pipeSpecRow.domain false) (Rows.pipeSpecSpec.post enc Try.prog Try.f38 false true false false) := by
  refine returnsInHanded_of_change (C := Try.checked) rowOwn started (by kernel_rfl) Try.func38
    (ChangeSpec.witness6 (enc := enc) (C := Try.checked) false ⟨#[], #[.agg #[.int .u8 0, .int .u8 0, .int .u8 0, .int .u8 0, .int .u8 0, .int .u8 0, .int .u8 0, .int .u8 0, .int .u8 0, .int .u8 0, .int .u8 0, .int .u8 0, .int .u8 0, .int .u8 0, .int .u8 0, .int .u8 0, .int .u8 0, .int .u8 0, .int .u8 0, .int .u8 0, .int .u8 0, .int .u8 0, .int .u8 0, .int .u8 0, .int .u8 0, .int .u8 0, .int .u8 0, .int .u8 0, .int .u8 0, .int .u8 0, .int .u8 0, .int .u8 0, .int .u64 0, .int .i64 0, .slice none 0 0, .slice none 0 0, .slice none 0 0, .int .i64 0, .int .i64 0, .int .i64 0, .int .i64 0, .slice none 0 0]], []⟩ 8 (by kernel_rfl) (by kernel_rfl) (by kernel_rfl) (by kernel_rfl)) ?_
  intro W base args ds gs before hval0 hW hcnd _
  have hval : ∀ (j : Nat) t v, Try.f38.params[j]? = some t → args[j]? = some v → Value.okWide Try.prog W .any base t v := hval0
  have hW' := hW
  obtain ⟨p, q, hA0, hV, rfl, hfz, hnd⟩ := hW
  have hA : DataW.TrodAll enc Try.prog W 0 (fun _ => true) true Try.f38.params.toList args.toList ds p := hA0
  rw [Try.params38] at hA hval
  obtain ⟨v0, vs0, d0, ds0, p0, q0, hargs, rfl, rfl, h0, r0⟩ := trodAll_cons hA
  obtain ⟨rfl, rfl, rfl⟩ := trodAll_nil r0
  obtain rfl : args = #[v0] := by cases args; simp_all
  obtain ⟨rfl, rfl⟩ := trodVars_none hV
  have lt0 : ∀ x ∈ p0, x.block < W.heap.size := by obtain ⟨m, hm⟩ := h0; exact DataW.trod_lt m _ _ _ hm
  obtain ⟨x0, e0, hat0⟩ := arg_job (hval 0 155 v0 rfl rfl) h0
  have walk := pspec x0.pre x0.p0.toInt x0.p1.toInt x0.p2.toInt x0.p3.toInt x0.ia x0.inn x0.ic (x0.lj.map fun p => (p.u, p.v)) _ x0.g.k.toInt x0.g.a1 x0.g.a2 x0.g.a3 x0.g.n1 x0.g.c1 x0.g.n2 x0.g.c2 x0.g.n3 x0.g.c3 x0.g.l1 x0.g.l2 x0.g.l3  W hat0.hpre hat0.hpo rfl hat0.hg.hl1 hat0.hg.hr1 hat0.hg.hm1 hat0.hg.hl2 hat0.hg.hr2 hat0.hg.hm2 hat0.hg.hl3 hat0.hg.hr3 hat0.hg.hm3 (by rw [List.length_map]; exact hat0.hni) (by rw [List.flatMap_map]; exact hat0.hri) hat0.hbi hat0.hci
  subst e0
  refine walk.mono fun e W' ⟨he, hs⟩ => ?_
  have bel := SH.below hs
  subst he
  exact ⟨_, rfl, _, _, _, [], _, [], hW', trodAll_mk1 (shut_bool Try.underlying4 _), (trodAll_cons_mk (Below.trod rowLaid (by kernel_rfl) (of_decide_eq_true (by kernel_rfl)) h0 bel lt0) trodAll_mk0), rfl, bel.frame _, fun h => by cases h⟩
theorem o1 : Rows.pipeSpecRow.wf (OpenSpec.ofChange Rows.pipeSpecSpec) = true := by kernel_rfl
theorem o4 : Try.f38.params.all (Try.prog.readableRec ·) = true := by kernel_rfl
theorem o10 : (Rows.pipeSpecRow.inPlace == Try.prog.inPlace 38) = true := by kernel_rfl
theorem o11 : (Rows.pipeSpecRow.unfollowed == Try.prog.unfollowed 38) = true := by kernel_rfl
theorem o12 : (Rows.pipeSpecRow.recurses == Try.prog.recurses 38) = true := by kernel_rfl
theorem o13 : (Rows.pipeSpecRow.named == Try.prog.varsNamed 38) = true := by kernel_rfl
theorem closed : joinedFacts Try.prog 38 Try.f38 Rows.pipeSpecSpec Rows.pipeSpecRow = true :=
  joined_mk o1 row2 row3 o4 (by kernel_rfl) (by kernel_rfl) row7 (by kernel_rfl) row9 o10 o11 o12 o13 (by kernel_rfl) (by kernel_rfl) (by kernel_rfl) (by kernel_rfl) (by kernel_rfl) (by kernel_rfl) (by kernel_rfl) (by kernel_rfl) (by kernel_rfl) row23 (by kernel_rfl) row25 row26 row27 row28 (by kernel_rfl) (by kernel_rfl) (by kernel_rfl) (by kernel_rfl)
theorem over : Rows.pipeSpecRow.holds Try.pinned (OpenSpec.ofChange Rows.pipeSpecSpec) :=
  OpenClaim.holds_of_wide 38 Try.f38 rfl rfl rfl rfl rfl rfl rfl ⟨rfl, rfl, rfl, rfl, rfl⟩ rfl rfl rfl rfl rfl (by kernel_rfl) Try.func38 closed
    (of_decide_eq_true (by kernel_rfl)) (by unfold Func.isWrapper; first | (rw [if_pos (by decide +kernel)]; kernel_rfl) | (rw [if_neg (by decide +kernel)]; exact ⟨rfl, rfl⟩))
    (fun os started H enc _ => lifted os started H enc)
theorem proved : Rows.PipeSpecSaid := over
#print axioms proved
end pipeSpec
end Go.Proofs.Ytldkjjnjdjfipaa
