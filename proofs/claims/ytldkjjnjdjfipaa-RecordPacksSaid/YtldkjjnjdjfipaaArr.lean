/- Arrays of bytes, held against each other, and stored whole. -/
import Derived.Test.YtldkjjnjdjfipaaRf2
import Derived.Test.YtldkjjnjdjfipaaEq
import Derived.ChangeKeysEq
namespace Go.Proofs.Ytldkjjnjdjfipaa
open Go Go.RowKit
set_option linter.unusedVariables false
set_option linter.unusedSimpArgs false
set_option maxRecDepth 20000
theorem fl_byte : ∀ (x : List UInt8) (k : Nat), (x.flatMap byteV)[k]? = x[k]?.map fun b => .int .u8 (b.toNat : Int)
  | [], k => by simp
  | b :: x, 0 => by simp
  | b :: x, k + 1 => by
    rw [List.flatMap_cons]
    show ([Value.int .u8 (b.toNat : Int)] ++ x.flatMap byteV)[k + 1]? = _
    rw [List.getElem?_append_right (by simp)]
    simpa using fl_byte x k
theorem eqItems_bytes (w : World) (d : Nat) (x y : List UInt8) : ∀ (m k : Nat), x.length = k + m → y.length = k + m →
    (Op.eqItems (d + 1) 5 1 (x.flatMap byteV).toArray (y.flatMap byteV).toArray (List.range' k m)).run Try.prog w = .ok (decide (x.drop k = y.drop k)) w
  | 0, k, hx, hy => by
    rw [List.drop_of_length_le (by omega), List.drop_of_length_le (by omega)]
    simp [Op.eqItems]
  | m + 1, k, hx, hy => by
    have h1 : (x.flatMap byteV)[k]? = some (.int .u8 ((x.getD k 0).toNat : Int)) := by
      rw [fl_byte, List.getD_eq_getElem?_getD, List.getElem?_eq_getElem (by omega : k < x.length)]; rfl
    have h2 : (y.flatMap byteV)[k]? = some (.int .u8 ((y.getD k 0).toNat : Int)) := by
      rw [fl_byte, List.getD_eq_getElem?_getD, List.getElem?_eq_getElem (by omega : k < y.length)]; rfl
    have p1 : (part 5 (x.flatMap byteV).toArray (k * 1)).run Try.prog w = .ok (.int .u8 ((x.getD k 0).toNat : Int)) w := by
      simp [part, go_sem, h1]
    have p2 : (part 5 (y.flatMap byteV).toArray (k * 1)).run Try.prog w = .ok (.int .u8 ((y.getD k 0).toNat : Int)) w := by
      simp [part, go_sem, h2]
    have p3 : (Op.equalIn (d + 1) 5 (.int .u8 ((x.getD k 0).toNat : Int)) (.int .u8 ((y.getD k 0).toNat : Int))).run Try.prog w = .ok (decide (x.getD k 0 = y.getD k 0)) w := by
      refine (equal_basic (P := Try.prog) w 5 .u8 _ _ Try.underlying5 d).trans (congrArg (fun b => Result.ok b w) ?_)
      rw [decide_eq_decide, Int.ofNat_inj, UInt8.toNat_inj]
    have ih := eqItems_bytes w d x y m (k + 1) (by omega) (by omega)
    rw [List.range'_succ]
    simp only [Op.eqItems, Sem.run_bind, p1, p2, p3, Result.andThen_ok]
    have hd : (x.drop k = y.drop k) ↔ (x.getD k 0 = y.getD k 0 ∧ x.drop (k + 1) = y.drop (k + 1)) := by
      have ex : x.drop k = x.getD k 0 :: x.drop (k + 1) := by rw [List.drop_eq_getElem_cons (by omega : k < x.length), List.getD_eq_getElem?_getD, List.getElem?_eq_getElem (by omega : k < x.length)]; rfl
      have ey : y.drop k = y.getD k 0 :: y.drop (k + 1) := by rw [List.drop_eq_getElem_cons (by omega : k < y.length), List.getD_eq_getElem?_getD, List.getElem?_eq_getElem (by omega : k < y.length)]; rfl
      rw [ex, ey, List.cons.injEq]
    by_cases he : x.getD k 0 = y.getD k 0
    · simp only [he, decide_true, Bool.not_true, Bool.false_eq_true, if_false]
      rw [ih]
      refine congrArg (fun b => Result.ok b w) ?_
      rw [decide_eq_decide, hd]
      exact ⟨fun h => ⟨he, h⟩, fun h => h.2⟩
    · simp only [he, decide_false, Bool.not_false, if_true, Sem.run_pure]
      refine congrArg (fun b => Result.ok b w) ?_
      exact (decide_eq_false fun h => he (hd.1 h).1).symm
def cpyB (d : List UInt8) (i : Nat) : List UInt8 := d.take i ++ List.replicate (32 - i) 0
theorem cpyB_len {d : List UInt8} (hd : d.length = 32) {i : Nat} (hi : i ≤ 32) : (cpyB d i).length = 32 := by simp [cpyB]; omega
theorem cpyB_set {d : List UInt8} (hd : d.length = 32) {i : Nat} (hi : i < 32) : (cpyB d i).set i (d.getD i default) = cpyB d (i + 1) := by
  unfold cpyB
  have hl : (d.take i).length = i := by rw [List.length_take]; omega
  rw [List.set_append_right _ _ (by omega), hl, Nat.sub_self]
  obtain ⟨j, hj⟩ : ∃ j, 32 - i = j + 1 := ⟨31 - i, by omega⟩
  rw [hj, List.replicate_succ, List.set_cons_zero, show 32 - (i + 1) = j by omega]
  have e : d.take (i + 1) = d.take i ++ [d.getD i default] := by
    rw [List.take_succ_eq_append_getElem (by omega : i < d.length), List.getD_eq_getElem?_getD, List.getElem?_eq_getElem (by omega : i < d.length)]; rfl
  rw [e, List.append_assoc]
  rfl
theorem cpyB_all {d : List UInt8} (hd : d.length = 32) {i : Nat} (hi : i = 32) : cpyB d i = d := by
  subst hi; unfold cpyB; rw [List.take_of_length_le (by omega)]; simp
theorem cpyB_0 (d : List UInt8) : (List.replicate 32 (Value.int .u8 0)) = (cpyB d 0).flatMap byteV := rfl
theorem equalB32 (w : World) (x y : List UInt8) (hx : x.length = 32) (hy : y.length = 32) : (Op.equal 30 (.agg (x.flatMap byteV).toArray) (.agg (y.flatMap byteV).toArray)).run Try.prog w = .ok (decide (x = y)) w := by
  have h := run_equalIn_array (P := Try.prog) (w := w) 9999 (x.flatMap byteV).toArray (y.flatMap byteV).toArray Try.underlying30 (i := Try.t5) rfl
  have h2 := eqItems_bytes w 9998 x y 32 0 (by omega) (by omega)
  rw [← List.range_eq_range'] at h2
  simp only [List.drop_zero] at h2
  exact h.trans h2
section
variable {P : Program} {w0 : World} {D : List Nat} {σ : Fr} {L M : List Res}
theorem e_storeW {t : TypeId} {a x : Operand} {b : Nat} {ty' : TypeId} {l vs : List Value} {v : Value} {k : Nat} {K : Value → List Res → Prop} {d : Option Tmp} {ty : TypeId} {pos : String} {af : Array Edge} {g : Option (Nat × Bool)}
    (ha : ev σ a = .pointer (some ⟨b, 0, none⟩)) (hx : ev σ x = v) (hv : v.cells = vs.toArray) (h1 : vs.all Value.oneCell' = true) (hs : ∀ w, (sizeOf t).run P w = .ok k w) (hk : vs.length = k) (hp : Pick L (cel b ty' l) M) (hfit : l.length = k)
    (hK : K undef (cel b ty' vs :: M)) : OpE P w0 D σ L ⟨d, .store t a x, ty, pos, af, g⟩ K := by
  subst hk
  exact e_store ha hx hv h1 hs hp (by omega) (by rw [List.take_zero, List.drop_of_length_le (by omega), List.nil_append, List.append_nil]) hK
theorem y_loadW {t : TypeId} {x : Operand} {b o : Nat} {vs : List Value} {k : Nat} (hx : ev σ x = .pointer (some ⟨b, o, none⟩)) (ha : ∀ w, (isAgg t).run P w = .ok true w) (hs : ∀ w, (sizeOf t).run P w = .ok k w) (hk : vs.length = k) (h : ∀ w, SH w0 D L w → CellsAt w b o vs) :
    OpR P w0 D σ L (.load t x) (.agg vs.toArray) := by
  subst hk
  exact y_loadN hx ha hs h
theorem rvCW {w : World} {a : Tmp} {t : TypeId} {b : Nat} {vs : List Value} {k : Nat} (hx : σ a = .pointer (some ⟨b, 0, none⟩)) (ha : ∀ w, (isAgg t).run P w = .ok true w) (hz : ∀ w, (sizeOf t).run P w = .ok k w) (hk : vs.length = k) (h : ∀ w', SH w D M w' → CellsAt w' b 0 vs) :
    ∀ w', SH w D M w' → (evRV σ (.cell a t)).run P w' = .ok (.agg vs.toArray) w' := by
  subst hk
  exact rvC hx ha hz h
theorem e_storeC {α : Type} {enc : α → List Value} {t : TypeId} {p x : Operand} {b o sz i : Nat} {ty' : TypeId} {xs zs : List α} {y : α} {v : Value} {K : Value → List Res → Prop} {d : Option Tmp} {ty : TypeId} {pos : String} {af : Array Edge} {g : Option (Nat × Bool)}
    (hlen : ∀ x, (enc x).length = sz) (hone : ∀ x, (enc x).all Value.oneCell' = true) (ha : ev σ p = .pointer (some ⟨b, o, none⟩)) (ho : o = i * sz) (hx : ev σ x = v) (hv : v.cells = (enc y).toArray) (hs : ∀ w, (sizeOf t).run P w = .ok sz w) (hp : Pick L (cel b ty' (xs.flatMap enc)) M) (hi : i < xs.length) (hz : xs.set i y = zs)
    (hK : K undef (cel b ty' (zs.flatMap enc) :: M)) : OpE P w0 D σ L ⟨d, .store t p x, ty, pos, af, g⟩ K := by
  subst ho; subst hz
  refine e_store (vs := enc y) (l' := (xs.set i y).flatMap enc) ha hx hv (hone y) (by rw [hlen]; exact hs) hp ?_ (fl_set hlen xs i hi y) hK
  rw [hlen, fl_len hlen]
  have : i * sz + sz = (i + 1) * sz := by rw [Nat.succ_mul]
  rw [this]
  exact Nat.mul_le_mul_right _ hi
theorem rds_cells {w : World} {a : Option Addr} {l : List Value} (h : Rds w a l) : CellsAt w (aB a) (aO a) l := by
  have := h.cells 0 (vs := l) (by simp)
  simpa using this
end
end Go.Proofs.Ytldkjjnjdjfipaa
