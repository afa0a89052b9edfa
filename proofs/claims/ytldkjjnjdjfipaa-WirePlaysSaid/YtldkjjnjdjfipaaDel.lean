/- Del: appends over what lies in a slice already, clear, and a slice made shorter. It states nothing of the program. -/
import Derived.Test.YtldkjjnjdjfipaaMk
namespace Go.Proofs.Ytldkjjnjdjfipaa
open Go Go.RowKit
set_option linter.unusedVariables false
set_option linter.unusedSimpArgs false
section
variable {P : Program} {w0 : World} {D : List Nat} {σ : Fr} {L L' M : List Res}
theorem SH.rowC {a : Option Addr} {cap m sz : Nat} {t : TypeId} {l vs : List Value} {k : Nat} {w : World} (h : SH w0 D (osl a cap m sz t l :: L) w) (hv : 0 < vs.length) (hfit : k + vs.length ≤ l.length) :
    ∃ g cur, a = some ⟨g, 0, none⟩ ∧ w.heap[g]? = some (.cells cur t (0, 0)) ∧ l.length ≤ cur.size ∧ SH w0 D (osl a cap m sz t (l.take k ++ vs ++ l.drop (k + vs.length)) :: L) (w.setRow g (cur.toList.take k ++ vs ++ cur.toList.drop (k + vs.length)).toArray) := by
  have hok : w.ownsRow 0 t sz (.slice a m cap) m l := h.ok (osl a cap m sz t l) (by simp)
  have hown := h.own (osl a cap m sz t l) (by simp)
  have hpos : 0 < m * sz := by rw [← hok.1]; omega
  rcases hok.2 with ⟨hvv, hn⟩ | ⟨g, cap', cur, hvv, hb0, hg, hle, hm, hcs, ht⟩
  · rw [hn] at hpos; omega
  · injection hvv with e1 e2 e3
    subst e1; subst e3
    have hlen := hok.1
    have hcl : l.length ≤ cur.size := by rw [hlen, hcs]; exact Nat.mul_le_mul_right _ hle
    refine ⟨g, cur, rfl, hg, hcl, ?_⟩
    have hsz : (cur.toList.take k ++ vs ++ cur.toList.drop (k + vs.length)).length = cur.size := by simp; omega
    refine SH.frame (A := [osl (some ⟨g, 0, none⟩) cap m sz t l]) (A' := [osl (some ⟨g, 0, none⟩) cap m sz t (l.take k ++ vs ++ l.drop (k + vs.length))]) h ⟨rfl, rfl, rfl, by simp, fun j hj hjD => setRow_other w g j _ (fun e => hjD (by simp [osl, Value.ownBlock, e])), ?_, ?_, by simp⟩
    · intro p hp
      simp at hp; subst hp
      refine ⟨by simp [← hlen]; omega, .inr ⟨g, cap, (cur.toList.take k ++ vs ++ cur.toList.drop (k + vs.length)).toArray, rfl, Nat.zero_le _, setRow_heap w g cur _ t _ hg, hle, hm, ?_, ?_⟩⟩
      · simp only [List.size_toArray]; rw [hsz, hcs]
      · simp only [List.append_assoc, List.toList_toArray] at *
        show (cur.toList.take k ++ (vs ++ cur.toList.drop (k + vs.length))).take (m * sz) = l.take k ++ (vs ++ l.drop (k + vs.length))
        rw [← ht, List.take_take, Nat.min_eq_left (by omega)]
        rw [List.take_append, List.take_append]
        have h2 : (List.take k cur.toList).length = k := by simp; omega
        rw [h2, List.take_of_length_le (by rw [h2]; omega), List.take_of_length_le (l := vs) (by omega)]
        congr 2
        rw [List.drop_take]
        congr 1
        omega
    · intro p hp c hc
      simp at hp; subst hp
      simp [osl, Value.ownBlock] at hc; subst hc
      exact ⟨.inr (by simp [osl, Value.ownBlock]), by simpa using (hown _ (by simp [osl, Value.ownBlock])).2⟩
/-- append over the elements of a slice -/
theorem e_appendOv {α : Type} {enc : α → List Value} {s x : Operand} {t e : TypeId} {i : TypeInfo} {a a2 : Option Addr} {cap m n sz k c2 : Nat} {xs ns zs : List α} {K : Value → List Res → Prop} {d : Option Tmp} {ty : TypeId} {pos : String} {af : Array Edge} {g : Option (Nat × Bool)}
    (hlen : ∀ x, (enc x).length = sz) (hone : ∀ x, (enc x).all Value.oneCell' = true) (ht : P.underlying t = some (.slice e)) (hi : P.info? e = some i) (hsize : i.size = sz) (hsz : 0 < sz)
    (hs : ev σ s = .slice a m cap) (hx : ev σ x = .slice a2 k c2) (hk : k = ns.length) (hp : Pick L (osl a cap n sz e (xs.flatMap enc)) M) (hxl : xs.length = n) (hsrc : ∀ w, SH w0 D L w → Rds w a2 (ns.flatMap enc)) (hroom : m + k ≤ n)
    (hz : xs.take m ++ ns ++ xs.drop (m + k) = zs)
    (hK : K (.slice a (m + k) cap) (osl a cap n sz e (zs.flatMap enc) :: M)) : OpE P w0 D σ L ⟨d, .call { callee := .builtin .append, args := #[s, x], argTypes := #[t, t] }, ty, pos, af, g⟩ K := by
  subst hk; subst hz; subst hsize
  refine .mk (by simp) fun w hw => ?_
  have hw' := hw.pick hp
  have hcap : n ≤ cap := osl_cap (hw'.ok _ List.mem_cons_self)
  have hfl := fl_len hlen xs
  have hnl := fl_len hlen ns
  by_cases hn0 : ns = []
  · subst hn0
    have e0 : xs.take m ++ [] ++ xs.drop (m + ([] : List α).length) = xs := by simp
    rw [e0] at hK
    refine ⟨.slice a m cap, w, osl a cap n i.size e (xs.flatMap enc) :: M, ?_, hw', hK⟩
    have hroom' : m ≤ cap := by simp at hroom; omega
    cases a2 with
    | none => cases a <;> simp [execOp, resolve, invoke, builtin, hs, hx, Builtin.append_, run_underlying ht, sizeOf, typeInfo, hi, Builtin.lenOf, Builtin.firstCells, hroom', storeCells]
    | some p =>
      have hf := run_firstCells_some (P := P) w i.size 0 p 0 c2 [] (by simp) (by simp)
      cases a <;> simp [execOp, resolve, invoke, builtin, hs, hx, Builtin.append_, run_underlying ht, sizeOf, typeInfo, hi, Builtin.lenOf, hf, hroom', storeCells]
  · have hpos : 0 < ns.length := by cases ns with | nil => exact absurd rfl hn0 | cons _ _ => simp
    have hvp : 0 < (ns.flatMap enc).length := by rw [hnl]; exact Nat.mul_pos hpos hsz
    have hfit : m * i.size + (ns.flatMap enc).length ≤ (xs.flatMap enc).length := by rw [hnl, hfl, hxl, ← Nat.add_mul]; exact Nat.mul_le_mul_right _ hroom
    obtain ⟨b, cur, ha, hb, hcl, hs2⟩ := SH.rowC hw' hvp hfit
    subst ha
    have e1 : (xs.flatMap enc).take (m * i.size) ++ ns.flatMap enc ++ (xs.flatMap enc).drop (m * i.size + (ns.flatMap enc).length) = (xs.take m ++ ns ++ xs.drop (m + ns.length)).flatMap enc := by
      rw [hnl, ← Nat.add_mul, fl_take hlen, fl_drop hlen, fl_app, fl_app]
    rw [e1] at hs2
    have hh := Rds.head (hsrc w hw) hvp
    have hnews : ∀ j u, (ns.flatMap enc)[j]? = some u → w.cell? ((⟨aB a2, aO a2, none⟩ : Addr).add j) = some u := fun j u hj => by
      have h3 := (hsrc w hw j u hj).2
      rw [Addr.add_lit]
      exact h3
    have hr := run_append_room (P := P) w t ty e i ht hi b m cap cur hb ⟨aB a2, aO a2, none⟩ ns.length c2 (ns.flatMap enc) hnl hnews (fun u hu => List.all_eq_true.1 (fl_one hone ns) u hu) (by omega) (by omega)
    rw [hh] at hx
    exact ⟨_, _, _, by simp [execOp, resolve, invoke, builtin, hs, hx, hr], hs2, hK⟩
theorem zeroCells_1 (z : Array Value) : Builtin.zeroCells z 1 = z := by
  apply Array.ext
  · simp [Builtin.zeroCells]
  · intro i h1 h2
    simp [Builtin.zeroCells, Nat.mod_eq_of_lt h2, h2]
/-- clear of one element of a slice -/
theorem e_clear1 {α : Type} {enc : α → List Value} {y0 : α} {x : Operand} {t e : TypeId} {z : Value} {a : Option Addr} {cap n sz j c2 : Nat} {xs zs : List α} {K : Value → List Res → Prop} {d : Option Tmp} {ty : TypeId} {pos : String} {af : Array Edge} {g : Option (Nat × Bool)}
    (hlen : ∀ x, (enc x).length = sz) (hone : ∀ x, (enc x).all Value.oneCell' = true) (hsz : 0 < sz) (ht : P.underlying t = some (.slice e)) (hz : ∀ w, (zeroValue e).run P w = .ok z w) (hzc : z.cells = (enc y0).toArray)
    (hx : ev σ x = .slice (subA a cap j sz) 1 c2) (hp : Pick L (osl a cap n sz e (xs.flatMap enc)) M) (hxl : xs.length = n) (hj : j < n) (hzs : xs.set j y0 = zs)
    (hK : K (.tuple #[]) (osl a cap n sz e (zs.flatMap enc) :: M)) : OpE P w0 D σ L ⟨d, .call { callee := .builtin .clear, args := #[x], argTypes := #[t] }, ty, pos, af, g⟩ K := by
  subst hzs
  refine .mk (by simp) fun w hw => ?_
  have hw' := hw.pick hp
  have hcap : n ≤ cap := osl_cap (hw'.ok _ List.mem_cons_self)
  have hfl := fl_len hlen xs
  have hy := hlen y0
  have hfit : j * sz + (enc y0).length ≤ (xs.flatMap enc).length := by
    rw [hy, hfl, hxl]
    have := Nat.mul_le_mul_right sz (show j + 1 ≤ n by omega)
    rw [Nat.succ_mul] at this
    exact this
  obtain ⟨b, cur, ha, hb, hcl, hs2⟩ := SH.rowC hw' (vs := enc y0) (k := j * sz) (by omega) hfit
  subst ha
  have hst := run_storeCells_at P b (j * sz) e (enc y0) 0 cur w hb (by omega) (fun u hu => List.all_eq_true.1 (hone y0) u hu)
  simp only [Nat.add_zero] at hst
  have e1 : (xs.flatMap enc).take (j * sz) ++ enc y0 ++ (xs.flatMap enc).drop (j * sz + (enc y0).length) = (xs.set j y0).flatMap enc := by
    rw [hy, show j * sz + sz = (j + 1) * sz by rw [Nat.succ_mul], fl_take hlen, fl_drop hlen, List.set_eq_take_append_cons_drop, if_pos (by omega)]
    simp [List.flatMap_append, List.flatMap_cons]
  rw [e1] at hs2
  have hne : cap ≠ j := by omega
  have hx2 : ev σ x = .slice (some ⟨b, j * sz, none⟩) 1 c2 := by
    rw [hx]
    unfold subA
    rw [if_neg hne]
    simp [Addr.add_lit]
  exact ⟨_, _, _, by simp [execOp, resolve, invoke, builtin, hx2, Builtin.clear_, run_underlying ht, hz, hzc, zeroCells_1, hst], hs2, hK⟩
theorem osl_cut {α : Type} {enc : α → List Value} {a : Option Addr} {cap n m sz : Nat} {t : TypeId} {xs : List α} (hlen : ∀ x, (enc x).length = sz) (hxl : xs.length = n) (hm : m ≤ n) : (osl a cap n sz t (xs.flatMap enc)).le (osl a cap m sz t ((xs.take m).flatMap enc)) := by
  refine ⟨fun b hb => ?_, fun w hw => ?_⟩
  · cases a with
    | none => exact absurd hb (by simp [osl, Value.ownBlock])
    | some p => simpa [osl, Value.ownBlock] using hb
  · refine ⟨by rw [fl_len hlen, List.length_take]; congr 1; omega, ?_⟩
    rcases hw.2 with ⟨hv, h0⟩ | ⟨g, cap', cur, hv, hb, hg, hle, hmx, hs, ht⟩
    · injection hv with e1 e2 e3
      exact .inl ⟨by rw [e1, e3, show m = 0 by omega], by omega⟩
    · injection hv with e1 e2 e3
      refine .inr ⟨g, cap', cur, by rw [e1, e3], hb, hg, by omega, hmx, hs, ?_⟩
      rw [← fl_take hlen, ← ht, List.take_take, Nat.min_eq_left (Nat.mul_le_mul_right _ hm)]
end
end Go.Proofs.Ytldkjjnjdjfipaa
