/- Del2: clear of the end of a slice. It states nothing of the program. -/
import Derived.Test.YtldkjjnjdjfipaaDel
namespace Go.Proofs.Ytldkjjnjdjfipaa
open Go Go.RowKit
set_option linter.unusedVariables false
set_option linter.unusedSimpArgs false
theorem zeroCells_list {α : Type} {enc : α → List Value} {sz : Nat} (hlen : ∀ x, (enc x).length = sz) (hsz : 0 < sz) (y : α) : ∀ k, (Builtin.zeroCells (enc y).toArray k).toList = (List.replicate k y).flatMap enc := fun k => by
  apply List.ext_getElem
  · simp [Builtin.zeroCells, fl_len hlen, hlen]
  · intro i h1 h2
    have hk : i < k * sz := by simpa [Builtin.zeroCells, hlen] using h1
    have h3 : i % sz < sz := Nat.mod_lt _ hsz
    have h4 : i / sz < k := (Nat.div_lt_iff_lt_mul hsz).2 hk
    have e : ((List.replicate k y).flatMap enc)[i]? = (enc y)[i % sz]? := by
      clear h1 h2
      induction k generalizing i with
      | zero => omega
      | succ k ih =>
        rw [List.replicate_succ, List.flatMap_cons]
        by_cases hi : i < sz
        · rw [List.getElem?_append_left (by rw [hlen]; exact hi), Nat.mod_eq_of_lt hi]
        · have h5 : i - sz < k * sz := by rw [Nat.succ_mul] at hk; omega
          rw [List.getElem?_append_right (by rw [hlen]; omega), hlen, ih (i - sz) h5 (Nat.mod_lt _ hsz) ((Nat.div_lt_iff_lt_mul hsz).2 h5), ← Nat.mod_eq_sub_mod (by omega)]
    have e2 : ((List.replicate k y).flatMap enc)[i]? = some ((List.replicate k y).flatMap enc)[i] := List.getElem?_eq_getElem h2
    rw [e2] at e
    simp only [Builtin.zeroCells, Array.getElem_toList, Array.getElem_map, Array.getElem_range, List.size_toArray, hlen]
    have h6 : i % sz < (enc y).length := by rw [hlen]; exact h3
    rw [List.getElem?_eq_getElem h6] at e
    rw [Option.some.inj e]
    simp [getElem!_pos, h6]
section
variable {P : Program} {w0 : World} {D : List Nat} {σ : Fr} {L L' M : List Res}
/-- clear of a slice's end -/
theorem e_clearN {α : Type} {enc : α → List Value} {y0 : α} {x : Operand} {t e : TypeId} {z : Value} {a : Option Addr} {cap n sz j k c2 : Nat} {xs zs : List α} {K : Value → List Res → Prop} {d : Option Tmp} {ty : TypeId} {pos : String} {af : Array Edge} {g : Option (Nat × Bool)}
    (hlen : ∀ x, (enc x).length = sz) (hone : ∀ x, (enc x).all Value.oneCell' = true) (hsz : 0 < sz) (ht : P.underlying t = some (.slice e)) (hz : ∀ w, (zeroValue e).run P w = .ok z w) (hzc : z.cells = (enc y0).toArray)
    (hx : ev σ x = .slice (subA a cap j sz) k c2) (hp : Pick L (osl a cap n sz e (xs.flatMap enc)) M) (hxl : xs.length = n) (hj : j + k = n) (hzs : xs.take j ++ List.replicate k y0 = zs)
    (hK : K (.tuple #[]) (osl a cap n sz e (zs.flatMap enc) :: M)) : OpE P w0 D σ L ⟨d, .call { callee := .builtin .clear, args := #[x], argTypes := #[t] }, ty, pos, af, g⟩ K := by
  subst hzs
  refine .mk (by simp) fun w hw => ?_
  have hw' := hw.pick hp
  have hcap : n ≤ cap := osl_cap (hw'.ok _ List.mem_cons_self)
  have hfl := fl_len hlen xs
  by_cases hk : k = 0
  · subst hk
    have e0 : xs.take j ++ List.replicate 0 y0 = xs := by rw [List.replicate_zero, List.append_nil, List.take_of_length_le (by omega)]
    rw [e0] at hK
    refine ⟨.tuple #[], w, _, ?_, hw', hK⟩
    cases hs : subA a cap j sz with
    | none => rw [hs] at hx; simp [execOp, resolve, invoke, builtin, hx, Builtin.clear_, run_underlying ht]
    | some p => rw [hs] at hx; simp [execOp, resolve, invoke, builtin, hx, Builtin.clear_, run_underlying ht]
  · have hvl : ((List.replicate k y0).flatMap enc).length = k * sz := by rw [fl_len hlen, List.length_replicate]
    have hfit : j * sz + ((List.replicate k y0).flatMap enc).length ≤ (xs.flatMap enc).length := by
      rw [hvl, hfl, hxl, ← Nat.add_mul, hj]
      exact Nat.le_refl _
    obtain ⟨b, cur, ha, hb, hcl, hs2⟩ := SH.rowC hw' (vs := (List.replicate k y0).flatMap enc) (k := j * sz) (by rw [hvl]; exact Nat.mul_pos (by omega) hsz) hfit
    subst ha
    have hst := run_storeCells_at P b (j * sz) e ((List.replicate k y0).flatMap enc) 0 cur w hb (by omega) (fun u hu => List.all_eq_true.1 (fl_one hone _) u hu)
    simp only [Nat.add_zero] at hst
    have e1 : (xs.flatMap enc).take (j * sz) ++ (List.replicate k y0).flatMap enc ++ (xs.flatMap enc).drop (j * sz + ((List.replicate k y0).flatMap enc).length) = (xs.take j ++ List.replicate k y0).flatMap enc := by
      rw [List.drop_of_length_le (by rw [hvl, hfl, hxl, ← Nat.add_mul, hj]; exact Nat.le_refl _), fl_take hlen, List.append_nil, List.flatMap_append]
    rw [e1] at hs2
    have hne : cap ≠ j := by omega
    have hx2 : ev σ x = .slice (some ⟨b, j * sz, none⟩) k c2 := by
      rw [hx]
      unfold subA
      rw [if_neg hne]
      simp [Addr.add_lit]
    have hzl := zeroCells_list hlen hsz y0 k
    exact ⟨_, _, _, by simp [execOp, resolve, invoke, builtin, hx2, Builtin.clear_, run_underlying ht, hz, hzc, hzl, hst, hk], hs2, hK⟩
end
end Go.Proofs.Ytldkjjnjdjfipaa
