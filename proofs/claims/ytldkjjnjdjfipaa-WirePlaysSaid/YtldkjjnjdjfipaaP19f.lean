/- P19f: two wires' letters, alike but for where their bytes lie; letters of a box let go. Plain. -/
import Derived.Test.YtldkjjnjdjfipaaP19e
namespace Go.Proofs.Ytldkjjnjdjfipaa
open Go Go.RowKit
set_option linter.unusedVariables false
set_option linter.unusedSimpArgs false
def kpT (t : Int) (bs : List Let) : List Let := bs.filter fun x => decide (x.to ≠ t)
def Eqv (us vs : List Let) : Prop := us.map kd = vs.map kd
theorem Eqv.rfl' (us : List Let) : Eqv us us := rfl
theorem eqv_len {us vs : List Let} (h : Eqv us vs) : us.length = vs.length := by
  have := congrArg List.length h
  simpa using this
theorem eqv_at {us vs : List Let} (h : Eqv us vs) (i : Nat) : kd (us.getD i default) = kd (vs.getD i default) := by
  have h2 := congrArg (fun l : List (Int × List UInt8) => l.getD i (kd default)) h
  simp only [List.getD_eq_getElem?_getD, List.getElem?_map] at h2
  rw [List.getD_eq_getElem?_getD, List.getD_eq_getElem?_getD]
  cases hu : us[i]? <;> cases hv : vs[i]? <;> simp [hu, hv] at h2 ⊢ <;> assumption
theorem eqv_cut {us vs : List Let} (h : Eqv us vs) (i : Nat) : Eqv (cutL us i) (cutL vs i) := by
  unfold Eqv cutL at *
  rw [List.map_append, List.map_append, List.map_take, List.map_take, List.map_drop, List.map_drop, h]
theorem eqv_app {us vs bs cs : List Let} (h : Eqv us vs) (h2 : Eqv bs cs) : Eqv (us ++ bs) (vs ++ cs) := by
  unfold Eqv at *
  rw [List.map_append, List.map_append, h, h2]
theorem eqv_one {x y : Let} (h : kd x = kd y) : Eqv [x] [y] := by unfold Eqv; rw [List.map_singleton, List.map_singleton, h]
theorem eqv_dlU {us vs : List Let} (h : Eqv us vs) (i : Int) : Eqv (dlU us i) (dlU vs i) := by
  unfold dlU
  rw [eqv_len h]
  split
  · exact h
  · exact eqv_cut h _
theorem eqv_dlB {us vs bs cs : List Let} (h : Eqv us vs) (h2 : Eqv bs cs) (i : Int) : Eqv (dlB us bs i) (dlB vs cs i) := by
  unfold dlB
  rw [eqv_len h]
  split
  · exact h2
  · exact eqv_app h2 (eqv_one (eqv_at h _))
theorem eqv_dbU {us vs : List Let} (h : Eqv us vs) (i : Int) : Eqv (dbU us i) (dbU vs i) := by
  unfold dbU
  rw [eqv_len h]
  split
  · exact h
  · exact eqv_app h (eqv_one (eqv_at h _))
theorem fdT_map (t : Int) (bs : List Let) : fdT t bs = (bs.map kd).findIdx fun p => decide (p.1 = t) := by
  unfold fdT
  rw [List.findIdx_map]
  rfl
theorem eqv_fd {bs cs : List Let} (h : Eqv bs cs) (t : Int) : fdT t bs = fdT t cs := by rw [fdT_map, fdT_map, h]
theorem eqv_tkB {bs cs : List Let} (h : Eqv bs cs) (t : Int) : Eqv (tkB t bs) (tkB t cs) := by
  unfold tkB
  rw [eqv_fd h, eqv_len h]
  split
  · exact eqv_cut h _
  · exact h
theorem eqv_tkD {bs cs : List Let} (h : Eqv bs cs) (t : Int) : tkD t bs = tkD t cs := by
  unfold tkD
  rw [eqv_fd h, eqv_len h]
  split
  · exact congrArg Prod.snd (eqv_at h _)
  · rfl
theorem eqv_cnt {bs cs : List Let} (h : Eqv bs cs) (t : Int) : cntT t bs = cntT t cs := by
  have e : ∀ l : List Let, cntT t l = (l.map kd).countP fun p => decide (p.1 = t) := fun l => by
    unfold cntT
    rw [List.countP_map]
    rfl
  rw [e, e, h]
theorem eqv_kp {bs cs : List Let} (h : Eqv bs cs) (t : Int) : Eqv (kpT t bs) (kpT t cs) := by
  have e : ∀ l : List Let, (kpT t l).map kd = (l.map kd).filter fun p => decide (p.1 ≠ t) := fun l => by
    unfold kpT
    rw [List.filter_map]
    rfl
  unfold Eqv
  rw [e, e, h]
theorem eqv_send {us vs : List Let} (h : Eqv us vs) {to : Int} {a a' : Option Addr} {n n' c c' : Nat} {d : List UInt8} : Eqv (us ++ [Let.mk to a n c d]) (vs ++ [Let.mk to a' n' c' d]) := eqv_app h (eqv_one rfl)
theorem kp_mem {t : Int} {bs : List Let} {x : Let} (h : x ∈ kpT t bs) : x ∈ bs := (List.mem_filter.1 h).1
theorem kp_le (t : Int) (bs : List Let) : (kpT t bs).length ≤ bs.length := List.length_filter_le _ _
theorem kp_none {t : Int} {bs : List Let} {k : Nat} (h : NoT t bs k) (hk : bs.length ≤ k) : kpT t bs = bs := by
  unfold kpT
  rw [List.filter_eq_self]
  intro x hx
  obtain ⟨i, hi, rfl⟩ := List.getElem_of_mem hx
  have h2 := h i (by omega)
  rw [List.getD_eq_getElem?_getD, List.getElem?_eq_getElem hi] at h2
  simpa using h2
theorem kp_take {t : Int} {bs : List Let} {k : Nat} (h : NoT t bs k) (hk : k ≤ bs.length) : kpT t (bs.take k) = bs.take k := by
  refine kp_none (k := k) (fun q hq => ?_) (by rw [List.length_take]; omega)
  have h2 := h q hq
  rw [List.getD_eq_getElem?_getD] at h2 ⊢
  rw [List.getElem?_take, if_pos hq]
  exact h2
theorem kp_no {t : Int} {bs : List Let} {k : Nat} (hk : k < bs.length) (he : (bs.getD k default).to = t) : kpT t (bs.take (k + 1)) = kpT t (bs.take k) := by
  rw [List.getD_eq_getElem?_getD, List.getElem?_eq_getElem hk, Option.getD_some] at he
  unfold kpT
  rw [List.take_succ_eq_append_getElem hk, List.filter_append]
  simp [he]
theorem kp_yes {t : Int} {bs : List Let} {k : Nat} (hk : k < bs.length) (he : ¬ (bs.getD k default).to = t) : kpT t (bs.take (k + 1)) = kpT t (bs.take k) ++ [bs.getD k default] := by
  have e : bs.getD k default = bs[k] := by rw [List.getD_eq_getElem?_getD, List.getElem?_eq_getElem hk, Option.getD_some]
  rw [e] at he ⊢
  unfold kpT
  rw [List.take_succ_eq_append_getElem hk, List.filter_append]
  simp [he]
theorem kp_all {t : Int} {bs : List Let} {k : Nat} (hk : bs.length ≤ k) : kpT t (bs.take k) = kpT t bs := by rw [List.take_of_length_le hk]
def idT (t : Int) (bs : List Let) : Int := if fdT t bs < bs.length then ((fdT t bs : Nat) : Int) else -1
theorem id_at {t : Int} {bs : List Let} {k : Nat} (h : NoT t bs k) (hk : k < bs.length) (he : (bs.getD k default).to = t) : ((k : Nat) : Int) = idT t bs := by
  have h2 := fd_at h hk he
  unfold idT
  rw [h2, if_pos hk]
theorem id_no {t : Int} {bs : List Let} {k : Nat} (h : NoT t bs k) (hk : bs.length ≤ k) : (-1 : Int) = idT t bs := by
  unfold idT
  rw [if_neg (fd_no h hk)]
theorem fd_yes {t : Int} {bs : List Let} (h : fdT t bs < bs.length) : NoT t bs (fdT t bs) ∧ (bs.getD (fdT t bs) default).to = t := by
  constructor
  · intro q hq
    have h2 := List.not_of_lt_findIdx (p := fun x : Let => decide (x.to = t)) hq
    rw [List.getD_eq_getElem?_getD, List.getElem?_eq_getElem (by omega), Option.getD_some]
    simpa using h2
  · have h3 := List.findIdx_getElem (xs := bs) (p := fun x : Let => decide (x.to = t)) (w := h)
    rw [List.getD_eq_getElem?_getD, List.getElem?_eq_getElem h, Option.getD_some]
    exact of_decide_eq_true h3
theorem kp_no0 {t : Int} {bs : List Let} (h : ¬ fdT t bs < bs.length) : kpT t bs = bs := by
  refine kp_none (k := bs.length) (fun q hq he => h ?_) (Nat.le_refl _)
  unfold fdT
  rw [List.findIdx_lt_length]
  rw [List.getD_eq_getElem?_getD, List.getElem?_eq_getElem hq, Option.getD_some] at he
  exact ⟨bs[q], List.getElem_mem hq, decide_eq_true he⟩
theorem kp_sub {us bs : List Let} {t : Int} : ∀ x ∈ us ++ kpT t bs, x ∈ us ++ bs := by
  intro x hx
  rcases List.mem_append.1 hx with hx | hx
  · exact List.mem_append_left _ hx
  · exact List.mem_append_right _ (kp_mem hx)
theorem sd_back {us bs : List Let} {z : Let} : ∀ x ∈ us ++ bs, x ∈ us ++ [z] ++ bs := by
  intro x hx
  rcases List.mem_append.1 hx with hx | hx
  · exact List.mem_append_left _ (List.mem_append_left _ hx)
  · exact List.mem_append_right _ hx
structure KpI (t : Int) (l xs : List Let) (i j : Nat) : Prop where
  hl : xs.length = l.length
  ht : xs.take i = kpT t (l.take j)
  hd : xs.drop j = l.drop j
  hi : i < j
  hj : j ≤ l.length
theorem kpI_0 {t : Int} {l : List Let} {i : Nat} (h : NoT t l i) (hi : i < l.length) (he : (l.getD i default).to = t) : KpI t l l i (i + 1) :=
  ⟨rfl, by rw [kp_no hi he, kp_take h (by omega)], rfl, by omega, by omega⟩
section
variable {t : Int} {l xs : List Let} {i j : Nat}
theorem kpI_at (h : KpI t l xs i j) (hj : j < l.length) : xs.getD j default = l.getD j default := by
  have h2 := congrArg (fun z : List Let => z.getD 0 default) h.hd
  simpa [List.getD_eq_getElem?_getD] using h2
theorem kpI_no (h : KpI t l xs i j) (hj : j < l.length) (he : (xs.getD j default).to = t) : KpI t l xs i (j + 1) := by
  rw [kpI_at h hj] at he
  refine ⟨h.hl, by rw [kp_no hj he]; exact h.ht, ?_, by have := h.hi; omega, by omega⟩
  have h2 := congrArg (List.drop 1) h.hd
  simpa [List.drop_drop, Nat.add_comm] using h2
theorem kpI_yes (h : KpI t l xs i j) (hj : j < l.length) (he : ¬ (xs.getD j default).to = t) : KpI t l (xs.set i (xs.getD j default)) (i + 1) (j + 1) := by
  have hi := h.hi
  have hl := h.hl
  rw [kpI_at h hj] at he ⊢
  refine ⟨by rw [List.length_set]; exact hl, ?_, ?_, by omega, by omega⟩
  · rw [kp_yes hj he, ← h.ht, List.take_succ_eq_append_getElem (by rw [List.length_set]; omega), List.getElem_set_self, List.take_set_of_le (Nat.le_refl _)]
  · rw [List.drop_set_of_lt (by omega)]
    have h2 := congrArg (List.drop 1) h.hd
    simpa [List.drop_drop, Nat.add_comm] using h2
theorem kpI_end (h : KpI t l xs i j) (hj : l.length ≤ j) : kpT t l = xs.take i := by rw [h.ht, kp_all hj]
end
end Go.Proofs.Ytldkjjnjdjfipaa
