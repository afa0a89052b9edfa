/- P19d: letters are counted. Plain. -/
import Derived.Test.YtldkjjnjdjfipaaP19c
namespace Go.Proofs.Ytldkjjnjdjfipaa
open Go Go.RowKit
set_option linter.unusedVariables false
set_option linter.unusedSimpArgs false
theorem dlU_len1 {us : List Let} {i : Int} (h : 0 < us.length) : (dlU us i).length = us.length - 1 := by unfold dlU; rw [if_neg (by omega)]; exact cutL_len (atI_lt i h)
theorem dlU_le (us : List Let) (i : Int) : (dlU us i).length ≤ us.length := by
  by_cases h : 0 < us.length
  · rw [dlU_len1 h]; omega
  · unfold dlU; rw [if_pos (by omega)]; exact Nat.le_refl _
theorem dlB_len1 {us bs : List Let} {i : Int} (h : 0 < us.length) : (dlB us bs i).length = bs.length + 1 := by unfold dlB; rw [if_neg (by omega)]; simp
theorem dlB_le (us bs : List Let) (i : Int) : (dlB us bs i).length ≤ bs.length + 1 := by
  by_cases h : 0 < us.length
  · rw [dlB_len1 h]; omega
  · unfold dlB; rw [if_pos (by omega)]; omega
theorem dbU_le (us : List Let) (i : Int) : (dbU us i).length ≤ us.length + 1 := by
  unfold dbU
  split
  · omega
  · simp
theorem tkB_le (t : Int) (bs : List Let) : (tkB t bs).length ≤ bs.length := by
  unfold tkB
  split
  · rw [cutL_len (by assumption)]; omega
  · exact Nat.le_refl _
theorem dlU_mem {us : List Let} {i : Int} {x : Let} (h : x ∈ dlU us i) : x ∈ us := by
  unfold dlU at h
  split at h
  · exact h
  · exact cutL_mem h
theorem dl_mem {us bs : List Let} {i : Int} {x : Let} (h : x ∈ dlU us i ++ dlB us bs i) : x ∈ us ++ bs := by
  by_cases h0 : us.length = 0
  · unfold dlU dlB at h
    rw [if_pos h0, if_pos h0] at h
    exact h
  · unfold dlU dlB at h
    rw [if_neg h0, if_neg h0] at h
    exact dl_sub (atI_lt i (by omega)) x h
theorem dr_mem {us bs : List Let} {i : Int} {x : Let} (h : x ∈ dlU us i ++ bs) : x ∈ us ++ bs := by
  rcases List.mem_append.1 h with h | h
  · exact List.mem_append_left _ (dlU_mem h)
  · exact List.mem_append_right _ h
theorem db_mem {us bs : List Let} {i : Int} {x : Let} (h : x ∈ dbU us i ++ bs) : x ∈ us ++ bs := by
  by_cases h0 : us.length = 0
  · unfold dbU at h
    rw [if_pos h0] at h
    exact h
  · unfold dbU at h
    rw [if_neg h0] at h
    exact db_sub (atI_lt i (by omega)) x h
theorem tk_mem {us bs : List Let} {t : Int} {x : Let} (h : x ∈ us ++ tkB t bs) : x ∈ us ++ bs := by
  unfold tkB at h
  split at h
  · exact tk_sub x h
  · exact h
structure WInv (us bs : List Let) (al tk i : Nat) : Prop where
  hu : us.length ≤ i
  hb : bs.length ≤ i
  hal : al ≤ i
  htk : tk ≤ i
  sum : us.length + bs.length + tk = al
  t01 : ∀ x ∈ us ++ bs, x.to = 0 ∨ x.to = 1
  lok : LOK (us ++ bs)
theorem winv_0 : WInv [] [] 0 0 0 := ⟨by simp, by simp, by simp, by simp, by simp, fun x h => by simp at h, fun x h => by simp at h⟩
section
variable {us bs : List Let} {al tk i : Nat} {z : Int}
theorem winv_send (h : WInv us bs al tk i) {to : Int} {a : Option Addr} {c : Nat} {d : List UInt8} (ht : to = 0 ∨ to = 1) (hd : d.length ≤ 1000000) : WInv (us ++ [Let.mk to a d.length c d]) bs (al + 1) tk (i + 1) := by
  have e : (us ++ [Let.mk to a d.length c d]).length = us.length + 1 := by simp
  refine ⟨by have := h.hu; omega, by have := h.hb; omega, by have := h.hal; omega, by have := h.htk; omega, by have := h.sum; omega, fun x hx => ?_, fun x hx => ?_⟩
  · rcases sd_sub x hx with rfl | hx
    · exact ht
    · exact h.t01 x hx
  · rcases sd_sub x hx with rfl | hx
    · exact ⟨rfl, hd⟩
    · exact h.lok x hx
theorem winv_del (h : WInv us bs al tk i) : WInv (dlU us z) (dlB us bs z) al tk (i + 1) := by
  have h1 := dlU_le us z
  have h2 := dlB_le us bs z
  refine ⟨by have := h.hu; omega, by have := h.hb; omega, by have := h.hal; omega, by have := h.htk; omega, ?_, fun x hx => h.t01 x (dl_mem hx), fun x hx => h.lok x (dl_mem hx)⟩
  have h3 := h.sum
  by_cases h0 : 0 < us.length
  · rw [dlU_len1 h0, dlB_len1 h0]; omega
  · unfold dlU dlB; rw [if_pos (by omega), if_pos (by omega)]; exact h3
theorem winv_dbl1 (h : WInv us bs al tk i) (h0 : 0 < us.length) : WInv (dbU us z) bs (al + 1) tk (i + 1) := by
  have h1 := dbU_le us z
  refine ⟨by have := h.hu; omega, by have := h.hb; omega, by have := h.hal; omega, by have := h.htk; omega, ?_, fun x hx => h.t01 x (db_mem hx), fun x hx => h.lok x (db_mem hx)⟩
  have h3 := h.sum
  have e : (dbU us z).length = us.length + 1 := by unfold dbU; rw [if_neg (by omega)]; simp
  omega
theorem winv_dbl0 (h : WInv us bs al tk i) (h0 : ¬ 0 < us.length) : WInv (dbU us z) bs al tk (i + 1) := by
  have e : dbU us z = us := by unfold dbU; rw [if_pos (by omega)]
  rw [e]
  exact ⟨by have := h.hu; omega, by have := h.hb; omega, by have := h.hal; omega, by have := h.htk; omega, h.sum, h.t01, h.lok⟩
theorem winv_drp1 (h : WInv us bs al tk i) (h0 : 0 < us.length) : WInv (dlU us z) bs al (tk + 1) (i + 1) := by
  have h1 := dlU_len1 (i := z) h0
  refine ⟨by have := h.hu; omega, by have := h.hb; omega, by have := h.hal; omega, by have := h.htk; omega, by have := h.sum; omega, fun x hx => h.t01 x (dr_mem hx), fun x hx => h.lok x (dr_mem hx)⟩
theorem winv_drp0 (h : WInv us bs al tk i) (h0 : ¬ 0 < us.length) : WInv (dlU us z) bs al tk (i + 1) := by
  have e : dlU us z = us := by unfold dlU; rw [if_pos (by omega)]
  rw [e]
  exact ⟨by have := h.hu; omega, by have := h.hb; omega, by have := h.hal; omega, by have := h.htk; omega, h.sum, h.t01, h.lok⟩
theorem winv_tk1 (h : WInv us bs al tk i) (h0 : fdT z bs < bs.length) : WInv us (tkB z bs) al (tk + 1) (i + 1) := by
  have h1 : (tkB z bs).length = bs.length - 1 := by unfold tkB; rw [if_pos h0]; exact cutL_len h0
  refine ⟨by have := h.hu; omega, by have := h.hb; omega, by have := h.hal; omega, by have := h.htk; omega, by have := h.sum; omega, fun x hx => h.t01 x (tk_mem hx), fun x hx => h.lok x (tk_mem hx)⟩
theorem winv_tk0 (h : WInv us bs al tk i) (h0 : ¬ fdT z bs < bs.length) : WInv us (tkB z bs) al tk (i + 1) := by
  have e : tkB z bs = bs := by unfold tkB; rw [if_neg h0]
  rw [e]
  exact ⟨by have := h.hu; omega, by have := h.hb; omega, by have := h.hal; omega, by have := h.htk; omega, h.sum, h.t01, h.lok⟩
theorem cnt01 : ∀ (bs : List Let), (∀ x ∈ bs, x.to = 0 ∨ x.to = 1) → cntT 0 bs + cntT 1 bs = bs.length
  | [], _ => rfl
  | y :: bs, h => by
    have ih := cnt01 bs (fun x hx => h x (List.mem_cons_of_mem _ hx))
    unfold cntT at *
    rw [List.countP_cons, List.countP_cons, List.length_cons]
    rcases h y List.mem_cons_self with e | e
    · simp [e]; omega
    · simp [e]; omega
theorem winv_sum (h : WInv us bs al tk i) : us.length + cntT 0 bs + cntT 1 bs + tk = al := by
  have h1 := cnt01 bs (fun x hx => h.t01 x (List.mem_append_right _ hx))
  have h2 := h.sum
  omega
theorem winv_lok (h : WInv us bs al tk i) : LOK bs := fun x hx => h.lok x (List.mem_append_right _ hx)
end
end Go.Proofs.Ytldkjjnjdjfipaa
