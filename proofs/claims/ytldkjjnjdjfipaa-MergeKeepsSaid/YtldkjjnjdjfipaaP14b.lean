/- Plain laws of the sort by pairs: it is stable, and there is one stable sort. -/
import Derived.Test.YtldkjjnjdjfipaaP14
namespace Go.Proofs.Ytldkjjnjdjfipaa
open Go Go.RowKit
set_option linter.unusedVariables false
set_option linter.unusedSimpArgs false

theorem split_at2 (x : List Rec) (i : Nat) (h : i + 1 < x.length) : x = x.take i ++ x.getD i default :: x.getD (i + 1) default :: x.drop (i + 2) := by
  have h0 : i < x.length := by omega
  have e : x.drop i = x.getD i default :: x.getD (i + 1) default :: x.drop (i + 2) := by
    rw [List.drop_eq_getElem_cons h0, List.drop_eq_getElem_cons h]
    simp [List.getD_eq_getElem?_getD, h0, h]
  rw [← e, List.take_append_drop]
theorem swp_split (sq : Bool) (x : List Rec) (i : Nat) (h : i + 1 < x.length) (ha : ahd sq (x.getD (i + 1) default) (x.getD i default) = true) : swp sq i x = x.take i ++ x.getD (i + 1) default :: x.getD i default :: x.drop (i + 2) := by
  unfold swp
  rw [if_pos ha]
  have hl : (x.take i).length = i := by rw [List.length_take]; omega
  conv => lhs; rw [show x.set i (x.getD (i + 1) default) = (x.take i ++ x.getD i default :: x.getD (i + 1) default :: x.drop (i + 2)).set i (x.getD (i + 1) default) from by rw [← split_at2 x i h]]
  rw [List.set_append_right _ _ (by omega), hl, Nat.sub_self, List.set_cons_zero, List.set_append_right _ _ (by omega), hl, show i + 1 - i = 1 by omega]
  rfl
/-- those of one rank, in their order -/
def ofRk (sq : Bool) (v : Int) (x : List Rec) : List Rec := x.filter fun r => decide (rk sq r = v)
theorem swp_rk (sq : Bool) (v : Int) (x : List Rec) (i : Nat) (h : i + 1 < x.length) : ofRk sq v (swp sq i x) = ofRk sq v x := by
  by_cases ha : ahd sq (x.getD (i + 1) default) (x.getD i default) = true
  · rw [swp_split sq x i h ha]
    conv => rhs; rw [split_at2 x i h]
    rw [ahd_rk, decide_eq_true_eq] at ha
    unfold ofRk
    simp only [List.filter_append, List.filter_cons, decide_eq_true_eq]
    congr 1
    by_cases h1 : rk sq (x.getD (i + 1) default) = v
    · rw [if_pos h1, if_neg (by omega), if_neg (by omega), if_pos h1]
    · rw [if_neg h1]
      by_cases h2 : rk sq (x.getD i default) = v
      · rw [if_pos h2, if_pos h2, if_neg h1]
      · rw [if_neg h2, if_neg h2, if_neg h1]
  · unfold swp
    rw [if_neg ha]
theorem srow_rk (sq : Bool) (v : Int) (r n : Nat) : ∀ (i : Nat) (x : List Rec), x.length = n → ofRk sq v (srow sq r n i x) = ofRk sq v x := by
  intro i x
  induction i, x using srow.induct (sq := sq) (r := r) (n := n) with
  | case1 i x h ih =>
    intro hx
    simp only [dite_eq_ite] at ih
    have hl : (if i % 2 = r % 2 then swp sq i x else x).length = n := by
      split
      · rw [swp_len]; exact hx
      · exact hx
    rw [srow_next h, ih hl]
    split
    · exact swp_rk sq v x i (by omega)
    · rfl
  | case2 i x h => intro hx; rw [srow_end h]
theorem srows_rk (sq : Bool) (v : Int) (n : Nat) : ∀ (t : Nat) (x : List Rec), x.length = n → ofRk sq v (srows sq n t x) = ofRk sq v x := by
  intro t x
  induction t, x using srows.induct (sq := sq) (n := n) with
  | case1 t x h ih =>
    intro hx
    rw [srows_next h, ih (by rw [srow_len]; exact hx), srow_rk sq v t n 0 x hx]
  | case2 t x h => intro hx; rw [srows_done (.inl h)]
/-- **The sort is stable.** -/
theorem msort_rk (sq : Bool) (v : Int) (l : List Rec) : ofRk sq v (msort sq l) = ofRk sq v l := srows_rk sq v _ 0 l rfl

/-- in order, as a list's law -/
def Srt (sq : Bool) (l : List Rec) : Prop := l.Pairwise fun a b => rk sq a ≤ rk sq b
theorem srt_of (sq : Bool) (l : List Rec) (h : ∀ i j, i < j → j < l.length → ahd sq (l.getD j default) (l.getD i default) = false) : Srt sq l := by
  unfold Srt
  rw [List.pairwise_iff_getElem]
  intro i j hi hj hij
  have := h i j hij hj
  rw [ahd_rk, decide_eq_false_iff_not] at this
  simp [List.getD_eq_getElem?_getD, hi, hj] at this
  omega
theorem srt_msort (sq : Bool) (l : List Rec) : Srt sq (msort sq l) := srt_of sq _ fun i j hij hj => msort_sorted sq l i j hij (by rw [msort_len] at hj; exact hj)
/-- **There is one stable sort.** -/
theorem srt_unique (sq : Bool) : ∀ (y z : List Rec), Srt sq y → Srt sq z → (∀ v, ofRk sq v y = ofRk sq v z) → y = z
  | [], [], _, _, _ => rfl
  | [], b :: z, _, _, h => by have := h (rk sq b); simp [ofRk] at this
  | a :: y, [], _, _, h => by have := h (rk sq a); simp [ofRk] at this
  | a :: y, b :: z, hy, hz, h => by
    unfold Srt at hy hz
    rw [List.pairwise_cons] at hy hz
    have hab : rk sq a = rk sq b := by
      rcases Int.lt_trichotomy (rk sq a) (rk sq b) with h1 | h1 | h1
      · exfalso
        have h2 := h (rk sq a)
        have h3 : ofRk sq (rk sq a) (b :: z) = [] := by
          unfold ofRk
          rw [List.filter_eq_nil_iff]
          intro c hc
          simp only [decide_eq_true_eq]
          rcases List.mem_cons.1 hc with rfl | hc
          · omega
          · have := hz.1 c hc; omega
        rw [h3] at h2
        simp [ofRk] at h2
      · exact h1
      · exfalso
        have h2 := h (rk sq b)
        have h3 : ofRk sq (rk sq b) (a :: y) = [] := by
          unfold ofRk
          rw [List.filter_eq_nil_iff]
          intro c hc
          simp only [decide_eq_true_eq]
          rcases List.mem_cons.1 hc with rfl | hc
          · omega
          · have := hy.1 c hc; omega
        rw [h3] at h2
        simp [ofRk] at h2
    have h1 := h (rk sq a)
    unfold ofRk at h1
    rw [List.filter_cons, List.filter_cons, if_pos (by simp), if_pos (by simp [hab])] at h1
    injection h1 with e1 e2
    subst e1
    congr 1
    refine srt_unique sq y z hy.2 hz.2 fun v => ?_
    have h2 := h v
    unfold ofRk at h2 ⊢
    rw [List.filter_cons, List.filter_cons] at h2
    split at h2
    · injection h2
    · exact h2
end Go.Proofs.Ytldkjjnjdjfipaa
