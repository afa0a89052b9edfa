/- P14k: a table that counts records up and down. Plain. -/
import Derived.Test.YtldkjjnjdjfipaaMap2
import Derived.Test.YtldkjjnjdjfipaaP14g
import Derived.Test.YtldkjjnjdjfipaaP14b
namespace Go.Proofs.Ytldkjjnjdjfipaa
open Go Go.RowKit
set_option linter.unusedVariables false
set_option linter.unusedSimpArgs false
theorem ens_key (l : RV) (k : Rec) : ((ens l k).getD (ixK l k) default).1 = k := by
  unfold ens
  by_cases h : ixK l k < l.length
  · rw [if_pos h]; exact ixK_key h
  · rw [if_neg h]
    have hi : ixK l k = l.length := Nat.le_antisymm (ixK_le l k) (by omega)
    rw [hi, List.getD_eq_getElem?_getD, List.getElem?_append_right (Nat.le_refl _)]
    simp
theorem ixK_cons (a : Rec) (v : Int) (l : RV) (k : Rec) : ixK ((a, v) :: l) k = if k = a then 0 else ixK l k + 1 := by
  unfold ixK
  rw [List.findIdx_cons]
  by_cases h : k = a <;> simp [h]
theorem vK_cons (a : Rec) (v : Int) (l : RV) (k : Rec) : vK ((a, v) :: l) k = if k = a then v else vK l k := by
  unfold vK
  rw [ixK_cons]
  by_cases h : k = a
  · simp [h]
  · rw [if_neg h, if_neg h]
    by_cases h2 : ixK l k < l.length
    · rw [if_pos (by simpa using h2), if_pos h2]; simp
    · rw [if_neg (by simpa using h2), if_neg h2]
theorem ens_cons (a : Rec) (v : Int) (l : RV) (k : Rec) : ens ((a, v) :: l) k = (a, v) :: if k = a then l else ens l k := by
  unfold ens
  rw [ixK_cons]
  by_cases h : k = a
  · simp [h]
  · rw [if_neg h, if_neg h]
    by_cases h2 : ixK l k < l.length
    · rw [if_pos (by simpa using h2), if_pos h2]
    · rw [if_neg (by simpa using h2), if_neg h2]; rfl
theorem vK_bmp : ∀ (l : RV) (k : Rec) (v : Int) (k' : Rec), vK (bmp l k v) k' = if k' = k then v else vK l k'
  | [], k, v, k' => by
    show vK [(k, v)] k' = _
    rw [vK_cons]
  | (a, x) :: l, k, v, k' => by
    have ih := vK_bmp l k v k'
    unfold bmp at ih ⊢
    rw [ens_cons, ixK_cons]
    by_cases h : k = a
    · rw [if_pos h, if_pos h, List.set_cons_zero, vK_cons, vK_cons, ← h]
      split <;> rfl
    · rw [if_neg h, if_neg h, List.set_cons_succ, vK_cons, vK_cons, ih]
      by_cases e : k' = a
      · rw [if_pos e, if_pos e, if_neg (fun e2 => h (e2.symm.trans e))]
      · rw [if_neg e, if_neg e]
theorem vK_ens : ∀ (l : RV) (k : Rec), vK (ens l k) k = vK l k
  | [], k => by simp [ens, ixK, vK]
  | (a, x) :: l, k => by
    rw [ens_cons, vK_cons, vK_cons]
    by_cases h : k = a
    · rw [if_pos h, if_pos h]
    · rw [if_neg h, if_neg h, if_neg h, vK_ens l k]
theorem bmp_keys : ∀ (l : RV) (k : Rec) (v : Int), (bmp l k v).map (·.1) = (ens l k).map (·.1)
  | [], k, v => rfl
  | (a, x) :: l, k, v => by
    have ih := bmp_keys l k v
    unfold bmp at ih ⊢
    rw [ens_cons, ixK_cons]
    by_cases h : k = a
    · rw [if_pos h, if_pos h, List.set_cons_zero, List.map_cons, List.map_cons, h]
    · rw [if_neg h, if_neg h, List.set_cons_succ, List.map_cons, List.map_cons, ih]
theorem ens_mem : ∀ (l : RV) (k x : Rec), x ∈ (ens l k).map (·.1) → x ∈ l.map (·.1) ∨ x = k
  | [], k, x, h => .inr (by simpa [ens, ixK] using h)
  | (a, v) :: l, k, x, h => by
    rw [ens_cons, List.map_cons] at h
    rcases List.mem_cons.1 h with h | h
    · exact .inl (by rw [List.map_cons]; exact List.mem_cons.2 (.inl h))
    · by_cases e : k = a
      · rw [if_pos e] at h
        exact .inl (List.mem_cons_of_mem _ h)
      · rw [if_neg e] at h
        rcases ens_mem l k x h with h | h
        · exact .inl (List.mem_cons_of_mem _ h)
        · exact .inr h
theorem ens_nodup : ∀ (l : RV) (k : Rec), (l.map (·.1)).Nodup → ((ens l k).map (·.1)).Nodup
  | [], k, _ => by simp [ens, ixK]
  | (a, v) :: l, k, h => by
    rw [List.map_cons, List.nodup_cons] at h
    rw [ens_cons, List.map_cons, List.nodup_cons]
    by_cases e : k = a
    · rw [if_pos e]; exact h
    · rw [if_neg e]
      refine ⟨fun hm => ?_, ens_nodup l k h.2⟩
      rcases ens_mem l k a hm with h2 | h2
      · exact h.1 h2
      · exact e h2.symm
theorem vK_at : ∀ (l : RV) (j : Nat), (l.map (·.1)).Nodup → j < l.length → vK l (l.getD j default).1 = (l.getD j default).2
  | [], j, _, h => absurd h (by simp)
  | (a, v) :: l, 0, _, _ => by rw [vK_cons]; simp
  | (a, v) :: l, j + 1, hn, h => by
    rw [List.map_cons, List.nodup_cons] at hn
    have hj : j < l.length := by simpa using h
    have e : ((a, v) :: l).getD (j + 1) default = l.getD j default := by simp
    rw [e, vK_cons, if_neg, vK_at l j hn.2 hj]
    intro e2
    refine hn.1 (List.mem_map.2 ⟨l.getD j default, ?_, e2⟩)
    rw [List.getD_eq_getElem?_getD, List.getElem?_eq_getElem hj]
    exact List.getElem_mem hj
/-- how often more a record is among the first i of the one list than among the first j of the other -/
def dK (l x : List Rec) (i j : Nat) (k : Rec) : Int := ((l.take i).count k : Int) - ((x.take j).count k : Int)
def MI (T : RV) (l x : List Rec) (i j : Nat) : Prop := (T.map (·.1)).Nodup ∧ ∀ k, vK T k = dK l x i j k
theorem mi_0 (l x : List Rec) : MI [] l x 0 0 := ⟨List.nodup_nil, fun k => by simp [vK, dK]⟩
theorem dK_bd (l x : List Rec) (i j : Nat) (k : Rec) : -(j : Int) ≤ dK l x i j k ∧ dK l x i j k ≤ (i : Int) := by
  unfold dK
  have h1 := List.count_le_length (a := k) (l := l.take i)
  have h2 := List.count_le_length (a := k) (l := x.take j)
  rw [List.length_take] at h1 h2
  omega
theorem count_next {l : List Rec} {i : Nat} (h : i < l.length) (k : Rec) : (l.take (i + 1)).count k = (l.take i).count k + if k = l.getD i default then 1 else 0 := by
  rw [List.take_succ_eq_append_getElem h, List.count_append, List.getD_eq_getElem?_getD, List.getElem?_eq_getElem h, Option.getD_some, List.count_singleton]
  by_cases e : k = l[i]
  · simp [e]
  · rw [if_neg e, if_neg (by simpa using fun e2 => e e2.symm)]
theorem mi_up {T : RV} {l x : List Rec} {i j : Nat} (h : MI T l x i j) (hi : i < l.length) {v : Int} (hv : v = vK T (l.getD i default) + 1) : MI (bmp T (l.getD i default) v) l x (i + 1) j := by
  subst hv
  refine ⟨by rw [bmp_keys]; exact ens_nodup _ _ h.1, fun k => ?_⟩
  rw [vK_bmp]
  have h2 := h.2
  unfold dK at h2 ⊢
  rw [count_next hi]
  by_cases e : k = l.getD i default
  · subst e; rw [if_pos rfl, if_pos rfl, h2]; omega
  · rw [if_neg e, if_neg e, h2]; omega
theorem mi_dn {T : RV} {l x : List Rec} {i j : Nat} (h : MI T l x i j) (hj : j < x.length) {v : Int} (hv : v = vK T (x.getD j default) - 1) : MI (bmp T (x.getD j default) v) l x i (j + 1) := by
  subst hv
  refine ⟨by rw [bmp_keys]; exact ens_nodup _ _ h.1, fun k => ?_⟩
  rw [vK_bmp]
  have h2 := h.2
  unfold dK at h2 ⊢
  rw [count_next hj]
  by_cases e : k = x.getD j default
  · subst e; rw [if_pos rfl, if_pos rfl, h2]; omega
  · rw [if_neg e, if_neg e, h2]; omega
theorem mi_bd {T : RV} {l x : List Rec} {i j : Nat} (h : MI T l x i j) (k : Rec) : -(j : Int) ≤ vK T k ∧ vK T k ≤ (i : Int) := by rw [h.2]; exact dK_bd l x i j k
theorem mi_end {T : RV} {l x : List Rec} {i j q : Nat} (h : MI T l x i j) (hp : x.Perm l) (hi : l.length ≤ i) (hj : x.length ≤ j) (hq : q < T.length) : (T.getD q default).2 = 0 := by
  rw [← vK_at T q h.1 hq, h.2]
  unfold dK
  rw [List.take_of_length_le hi, List.take_of_length_le hj, hp.count_eq]
  omega
theorem msort_fix (sq : Bool) (l : List Rec) : msort sq (msort sq l) = msort sq l := srt_unique sq _ _ (srt_msort sq _) (srt_msort sq _) fun v => msort_rk sq v _
theorem srtd_msort (sq : Bool) (l : List Rec) : ∀ j, j < (msort sq l).length → 1 ≤ j → ahd sq ((msort sq l).getD j default) ((msort sq l).getD (j - 1) default) = false := fun j hj h1 => msort_sorted sq l (j - 1) j (by omega) (by rw [msort_len] at hj; exact hj)
end Go.Proofs.Ytldkjjnjdjfipaa
