/- Lists held against each other, copies with room behind them. It states nothing of the program. -/
import Derived.Test.YtldkjjnjdjfipaaRf
namespace Go.Proofs.Ytldkjjnjdjfipaa
open Go Go.RowKit
set_option linter.unusedVariables false
set_option linter.unusedSimpArgs false
section
variable {α : Type}
theorem gsame_all [DecidableEq α] {na nb i : Nat} {x y : List α} (hna : x.length = na) (hnb : y.length = nb) (h : na = nb) (hi : na ≤ i) (e : x.take i = y.take i) : decide (x = y) = true := by
  rw [List.take_of_length_le (by omega), List.take_of_length_le (by omega)] at e
  exact decide_eq_true e
theorem gsame_not [DecidableEq α] [Inhabited α] {i : Nat} {x y : List α} (h : ¬ x.getD i default = y.getD i default) : decide (x = y) = false := decide_eq_false fun e => h (by rw [e])
theorem gsame_step [Inhabited α] {i : Nat} {x y : List α} (h1 : i < x.length) (h2 : i < y.length) (e : x.take i = y.take i) (h : x.getD i default = y.getD i default) : x.take (i + 1) = y.take (i + 1) := by
  rw [List.take_succ_eq_append_getElem h1, List.take_succ_eq_append_getElem h2, e]
  simp [List.getD_eq_getElem?_getD, h1, h2] at h
  rw [h]
end
section
variable {α : Type}
/-- what lies behind a copy while it is filled -/
def ownTo (l : List α) (z v : α) (i : Nat) : List α := l ++ List.replicate i v ++ List.replicate (3 - i) z
theorem ownTo_len (l : List α) (z v : α) {i : Nat} (h : i ≤ 3) : (ownTo l z v i).length = l.length + 3 := by simp [ownTo]; omega
theorem ownTo_0 (l : List α) (z v : α) : ([] : List α) ++ l ++ (List.replicate (l.length + 3) z).drop (0 + l.length) = ownTo l z v 0 := by
  simp [ownTo, List.drop_replicate]
theorem ownTo_set (l : List α) (z v : α) {i : Nat} (h : i < 3) : (ownTo l z v i).set (l.length + i) v = ownTo l z v (i + 1) := by
  unfold ownTo
  rw [List.set_append_right _ _ (by simp), List.length_append, List.length_replicate, Nat.sub_self]
  obtain ⟨j, hj⟩ : ∃ j, 3 - i = j + 1 := ⟨2 - i, by omega⟩
  rw [hj, List.replicate_succ, List.set_cons_zero, List.replicate_succ', show 3 - (i + 1) = j by omega]
  simp
/-- a copy, and three of v behind it -/
def ownL (l : List α) (v : α) : List α := l ++ [v, v, v]
theorem ownTo_3 (l : List α) (z v : α) : ownTo l z v 3 = ownL l v := by simp [ownTo, ownL, List.replicate]
theorem ownL_len (l : List α) (v : α) : (ownL l v).length = l.length + 3 := by simp [ownL]
theorem ownL_take (l : List α) (v : α) : (ownL l v).take l.length = l := by simp [ownL]
theorem ownL_at [Inhabited α] (l : List α) (v : α) {i : Nat} (h1 : l.length ≤ i) (h2 : i < l.length + 3) : (ownL l v).getD i default = v := by
  unfold ownL
  rw [List.getD_eq_getElem?_getD, List.getElem?_append_right h1]
  obtain ⟨j, rfl⟩ : ∃ j, i = l.length + j := ⟨i - l.length, by omega⟩
  rw [Nat.add_sub_cancel_left]
  rcases j with _ | _ | _ | j
  · rfl
  · rfl
  · rfl
  · omega
end
section
variable {P : Program} {w0 : World} {D : List Nat} {σ : Fr} {L M : List Res}
/-- a whole block as a slice with room behind it -/
theorem osl_front {α : Type} {enc : α → List Value} {b cap sz : Nat} {t : TypeId} {xs l : List α} {k : Nat} (hlen : ∀ x, (enc x).length = sz) (h : xs.take k = l) (hk : k ≤ cap) (hxl : xs.length = cap) : (osl (some ⟨b, 0, none⟩) cap cap sz t (xs.flatMap enc)).le (osl (some ⟨b, 0, none⟩) cap k sz t (l.flatMap enc)) :=
  ⟨fun c hc => by simpa [osl, Value.ownBlock] using hc, fun w hw => by
    refine ⟨by rw [fl_len hlen, ← h, List.length_take]; congr 1; omega, ?_⟩
    rcases hw.2 with ⟨hv, -⟩ | ⟨g, cap', cur, hv, hb, hg, hle, hm, hs, ht⟩
    · cases hv
    · injection hv with e1 e2 e3
      injection e1 with e1; injection e1 with e1
      subst e1; subst e3
      refine .inr ⟨b, cap, cur, rfl, hb, hg, hk, hm, hs, ?_⟩
      have h1 : cur.toList = xs.flatMap enc := by rw [← ht, List.take_of_length_le (by simp [hs])]
      rw [h1, fl_take hlen, h]⟩
theorem e_storeL' {α : Type} {enc : α → List Value} {t : TypeId} {p x : Operand} {a : Option Addr} {cap m sz i : Nat} {ty' : TypeId} {xs zs : List α} {y : α} {v : Value} {K : Value → List Res → Prop} {d : Option Tmp} {ty : TypeId} {pos : String} {af : Array Edge} {g : Option (Nat × Bool)}
    (hlen : ∀ x, (enc x).length = sz) (hone : ∀ x, (enc x).all Value.oneCell' = true) (hsz : 0 < sz)
    (ha : ev σ p = .pointer (some ⟨aB a, aO a + i * sz, none⟩)) (hx : ev σ x = v) (hv : v.cells = (enc y).toArray) (hs : ∀ w, (sizeOf t).run P w = .ok sz w) (hp : Pick L (osl a cap m sz ty' (xs.flatMap enc)) M) (hi : i < xs.length) (hz : xs.set i y = zs)
    (hK : K undef (osl a cap m sz ty' (zs.flatMap enc) :: M)) : OpE P w0 D σ L ⟨d, .store t p x, ty, pos, af, g⟩ K := by
  subst hz
  exact e_storeL hlen hone hsz ha hx hv hs hp hi hK
theorem ownL_take' {α : Type} {l : List α} {v : α} {n : Nat} (h : l.length = n) : (ownL l v).take n = l := by rw [← h]; exact ownL_take l v
theorem rdsT' {α : Type} {enc : α → List Value} {z k : Nat} {a : Option Addr} {l l' : List α} (hz : ∀ x, (enc x).length = z) (hk : l.take k = l') (h : ∀ w, SH w0 D L w → Rds w a (l.flatMap enc)) : ∀ w, SH w0 D L w → Rds w a (l'.flatMap enc) := hk ▸ rdsT hz k h
end
theorem Ent.skip {L N : List Res} (x : Res) (h : Ent L N) : Ent (x :: L) N := by
  induction h with
  | nil => exact .nil
  | w hp hle h ih => exact .w (.t hp) hle ih
end Go.Proofs.Ytldkjjnjdjfipaa
