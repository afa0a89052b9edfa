/- make, and appends within what was made. It states nothing of the program. -/
import Derived.Test.YtldkjjnjdjfipaaSlc
import Derived.Laws.MakeOwn
namespace Go.Proofs.Ytldkjjnjdjfipaa
open Go Go.RowKit
set_option linter.unusedVariables false
set_option linter.unusedSimpArgs false

section
variable {P : Program} {w0 : World} {D : List Nat} {σ : Fr} {L L' M : List Res}
theorem fl_rep {α : Type} {enc : α → List Value} {z : Nat} (hz : ∀ x, (enc x).length = z) (y : α) : ∀ (c i : Nat), i < c * z → ((List.replicate c y).flatMap enc)[i]? = (enc y)[i % z]?
  | 0, i, h => by omega
  | c + 1, i, h => by
    rw [List.replicate_succ, List.flatMap_cons]
    by_cases hi : i < z
    · rw [List.getElem?_append_left (by rw [hz]; exact hi), Nat.mod_eq_of_lt hi]
    · rw [List.getElem?_append_right (by rw [hz]; omega), hz, fl_rep hz y c (i - z) (by rw [Nat.succ_mul] at h; omega)]
      congr 1
      conv => rhs; rw [show i = (i - z) + z by omega, Nat.add_mod_right]
theorem made_rep {α : Type} {enc : α → List Value} {z : Nat} (hz : ∀ x, (enc x).length = z) (hp : 0 < z) (y : α) (c : Nat) : (madeCells (enc y).toArray (c * z)).toList = (List.replicate c y).flatMap enc := by
  apply List.ext_getElem?
  intro i
  by_cases h : i < c * z
  · rw [fl_rep hz y c i h]
    have hm : i % z < (enc y).length := by rw [hz]; exact Nat.mod_lt _ hp
    rw [List.getElem?_eq_getElem hm]
    simp [madeCells, h, hz]
    rw [List.getElem?_eq_getElem hm]
    rfl
  · rw [List.getElem?_eq_none (by simp [size_madeCells]; omega), List.getElem?_eq_none (by rw [fl_len hz, List.length_replicate]; omega)]
/-- make: a new block, known whole -/
theorem e_make {α : Type} {enc : α → List Value} {y0 : α} {t e : TypeId} {i : TypeInfo} {z : Value} {x u : Operand} {kl kc : IntKind} {m c sz bytes : Nat} {K : Value → List Res → Prop} {d : Option Tmp} {ty : TypeId} {pos : String} {af : Array Edge} {g : Option (Nat × Bool)}
    (hlen : ∀ x, (enc x).length = sz) (hsz : 0 < sz) (ht : P.underlying t = some (.slice e)) (hi : P.info? e = some i) (hz : i.zero = some z) (hsize : i.size = sz) (hby : i.bytes = bytes) (hzc : z.cells = (enc y0).toArray)
    (hx : ev σ x = .int kl m) (hu : ev σ u = .int kc c) (hmc : m ≤ c) (hb : bytes * c ≤ 281474976710656) (hcm : c ≤ 9007199254740992)
    (hK : ∀ b, K (.slice (some ⟨b, 0, none⟩) m c) (osl (some ⟨b, 0, none⟩) c c sz e ((List.replicate c y0).flatMap enc) :: L)) : OpE P w0 D σ L ⟨d, .makeSlice t x u, ty, pos, af, g⟩ K := by
  have hlt : ((List.replicate c y0).flatMap enc).length = c * sz := by rw [fl_len hlen, List.length_replicate]
  have hrun : ∀ w, (execOp (ev σ) ⟨d, .makeSlice t x u, ty, pos, af, g⟩).run P w = .ok (.value (.slice (some ⟨w.heap.size, 0, none⟩) m c)) (w.alloc (.cells ((List.replicate c y0).flatMap enc).toArray e (0, 0))) := fun w => by
    have hr := run_make (P := P) w t e i z ht hi hz kl kc m c (by omega) (by omega) (by rw [hby]; rw [← Int.natCast_mul]; omega) (by omega)
    simp only [Int.toNat_natCast, hsize] at hr
    have e1 : madeCells z.cells (c * sz) = ((List.replicate c y0).flatMap enc).toArray := by
      rw [hzc, ← made_rep hlen hsz y0 c]
    rw [e1] at hr
    simp [execOp, hx, hu, hr]
  exact .mk (by simp) fun w hs => ⟨_, _, _, hrun w, SH.celO .h hlt (by simp only [maxLen]; omega) _ (hs.frame0 (SH.new w _)), hK w.heap.size⟩
theorem osl_cel {b cap sz : Nat} {e : TypeId} {l : List Value} : (osl (some ⟨b, 0, none⟩) cap cap sz e l).le (cel b e l) := ⟨fun c hc => by simpa [osl, Value.ownBlock, cel, blk] using hc, fun w hw => by
  rcases hw.2 with ⟨hv, -⟩ | ⟨g, cap', cur, hv, hb, hg, hle, hm, hs, ht⟩
  · cases hv
  · injection hv with e1 e2 e3
    injection e1 with e1
    injection e1 with e1
    subst e1; subst e3
    have h1 : cur.toList = l := by rw [← ht, List.take_of_length_le (by simp [hs])]
    show w.heap[b]? = some (.cells l.toArray e (0, 0))
    rw [hg, ← h1]⟩
/-- append within a block that is known whole -/
theorem e_appendIn {α : Type} {enc : α → List Value} {s x : Operand} {t e : TypeId} {i : TypeInfo} {b : Nat} {a2 : Option Addr} {cap m sz k c2 : Nat} {xs ns zs : List α} {K : Value → List Res → Prop} {d : Option Tmp} {ty : TypeId} {pos : String} {af : Array Edge} {g : Option (Nat × Bool)}
    (hlen : ∀ x, (enc x).length = sz) (hone : ∀ x, (enc x).all Value.oneCell' = true) (ht : P.underlying t = some (.slice e)) (hi : P.info? e = some i) (hsize : i.size = sz) (hsz : 0 < sz)
    (hs : ev σ s = .slice (some ⟨b, 0, none⟩) m cap) (hx : ev σ x = .slice a2 k c2) (hk : k = ns.length) (hp : Pick L (osl (some ⟨b, 0, none⟩) cap cap sz e (xs.flatMap enc)) M) (hxl : xs.length = cap) (hsrc : ∀ w, SH w0 D L w → Rds w a2 (ns.flatMap enc)) (hroom : m + k ≤ cap)
    (hz : xs.take m ++ ns ++ xs.drop (m + k) = zs)
    (hK : K (.slice (some ⟨b, 0, none⟩) (m + k) cap) (osl (some ⟨b, 0, none⟩) cap cap sz e (zs.flatMap enc) :: M)) : OpE P w0 D σ L ⟨d, .call { callee := .builtin .append, args := #[s, x], argTypes := #[t, t] }, ty, pos, af, g⟩ K := by
  subst hk; subst hz; subst hsize
  refine .mk (by simp) fun w hw => ?_
  have hw' := hw.pick hp
  have hc := hw'.weaken osl_cel
  have hb : w.heap[b]? = some (.cells (xs.flatMap enc).toArray e (0, 0)) := hc.ok (cel b e (xs.flatMap enc)) (by simp)
  have hfl := fl_len hlen xs
  have hnl := fl_len hlen ns
  have hmax : cap ≤ maxLen := by
    rcases (hw'.ok (osl (some ⟨b, 0, none⟩) cap cap i.size e (xs.flatMap enc)) (by simp)).2 with ⟨hv, -⟩ | ⟨g, cap', cur, hv, hb, hg, hle, hm, hs, ht⟩
    · cases hv
    · injection hv with e1 e2 e3
      omega
  cases a2 with
  | some p =>
    have hnews : ∀ j u, (ns.flatMap enc)[j]? = some u → w.cell? (p.add j) = some u := fun j u hj => by
      obtain ⟨h2, h3⟩ := hsrc w hw j u hj
      injection h2 with h2
      rw [h2, Addr.add_lit]
      exact h3
    have hfit : m * i.size + (ns.flatMap enc).length ≤ (xs.flatMap enc).toArray.size := by
      simp only [List.size_toArray]
      rw [hnl, hfl, hxl, ← Nat.add_mul]
      exact Nat.mul_le_mul_right _ hroom
    have hr := run_append_room (P := P) w t ty e i ht hi b m cap (xs.flatMap enc).toArray hb p ns.length c2 (ns.flatMap enc) hnl hnews (fun u hu => List.all_eq_true.1 (fl_one hone ns) u hu) hroom hfit
    have e1 : (xs.flatMap enc).take (m * i.size) ++ ns.flatMap enc ++ (xs.flatMap enc).drop (m * i.size + (ns.flatMap enc).length) = (xs.take m ++ ns ++ xs.drop (m + ns.length)).flatMap enc := by
      rw [hnl, ← Nat.add_mul, fl_take hlen, fl_drop hlen, fl_app, fl_app]
    simp only [List.toList_toArray] at hr
    rw [e1] at hr
    refine ⟨_, _, osl (some ⟨b, 0, none⟩) cap cap i.size e ((xs.take m ++ ns ++ xs.drop (m + ns.length)).flatMap enc) :: M, ?_, SH.celO .h ?_ hmax _ hc.row, hK⟩
    · simp [execOp, resolve, invoke, builtin, hs, hx, hr]
    · rw [fl_len hlen]
      congr 1
      simp only [List.length_append, List.length_take, List.length_drop]
      omega
  | none =>
    have hn0 : ns = [] := by
      refine rds_none hlen hsz (hsrc w hw) rfl
    subst hn0
    refine ⟨.slice (some ⟨b, 0, none⟩) m cap, w, osl (some ⟨b, 0, none⟩) cap cap i.size e (xs.flatMap enc) :: M, ?_, hw', ?_⟩
    · have hroom' : m ≤ cap := by omega
      simp [execOp, resolve, invoke, builtin, hs, hx, Builtin.append_, run_underlying ht, sizeOf, typeInfo, hi, Builtin.lenOf, Builtin.firstCells, hroom', storeCells]
    · simpa using hK
end
end Go.Proofs.Ytldkjjnjdjfipaa
