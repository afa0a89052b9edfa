/- P19b: what the wire's calls do to the letters under way and in boxes. Plain. -/
import Derived.Test.YtldkjjnjdjfipaaFamb
import Derived.Test.YtldkjjnjdjfipaaNumZ
namespace Go.Proofs.Ytldkjjnjdjfipaa
open Go Go.RowKit
set_option linter.unusedVariables false
set_option linter.unusedSimpArgs false
theorem SH.lendW {w0 w : World} {D : List Nat} {A M : List Res} (h : SH w0 D (A ++ M) w) : SH w (A.flatMap Res.fp) A w := by
  have h1 : SH w0 D (M ++ A) w := h.perm List.perm_append_comm
  exact (SH.dropAll M h1).self
def atI (k : Nat) (i : Int) : Nat := if k = 0 then 0 else ((i.tmod ((k : Nat) : Int) + ((k : Nat) : Int)).tmod ((k : Nat) : Int)).toNat
theorem tm_bd (i : Int) {k : Nat} (hk : 0 < k) : -((k : Nat) : Int) < i.tmod ((k : Nat) : Int) ∧ i.tmod ((k : Nat) : Int) < ((k : Nat) : Int) := by
  have h1 := Int.natAbs_tmod i ((k : Nat) : Int)
  have h2 : i.natAbs % (((k : Nat) : Int)).natAbs < (((k : Nat) : Int)).natAbs := Nat.mod_lt _ (by omega)
  omega
theorem atI_eq (i : Int) {k : Nat} (hk : 0 < k) : (i.tmod ((k : Nat) : Int) + ((k : Nat) : Int)).tmod ((k : Nat) : Int) = ((atI k i : Nat) : Int) := by
  have h1 := tm_bd i hk
  unfold atI
  rw [if_neg (by omega)]
  have h2 : 0 ≤ (i.tmod ((k : Nat) : Int) + ((k : Nat) : Int)).tmod ((k : Nat) : Int) := Int.tmod_nonneg _ (by omega)
  omega
theorem atI_lt (i : Int) {k : Nat} (hk : 0 < k) : atI k i < k := by
  have h1 := atI_eq i hk
  have h2 := tm_bd (i.tmod ((k : Nat) : Int) + ((k : Nat) : Int)) hk
  omega
theorem atI_0 (i : Int) : atI 0 i = 0 := rfl
def dlU (us : List Let) (i : Int) : List Let := if us.length = 0 then us else cutL us (atI us.length i)
def dlB (us bs : List Let) (i : Int) : List Let := if us.length = 0 then bs else bs ++ [us.getD (atI us.length i) default]
def dbU (us : List Let) (i : Int) : List Let := if us.length = 0 then us else us ++ [us.getD (atI us.length i) default]
def cntT (t : Int) (bs : List Let) : Nat := bs.countP fun x => decide (x.to = t)
theorem cntT_le (t : Int) (bs : List Let) : cntT t bs ≤ bs.length := List.countP_le_length
theorem cntT_1 {t : Int} {bs : List Let} {k q : Nat} (h : q = cntT t (bs.take k)) (hk : k < bs.length) (he : (bs.getD k default).to = t) : q + 1 = cntT t (bs.take (k + 1)) := by
  subst h
  rw [List.getD_eq_getElem?_getD, List.getElem?_eq_getElem hk, Option.getD_some] at he
  unfold cntT
  rw [List.take_succ_eq_append_getElem hk, List.countP_append, List.countP_singleton, if_pos (decide_eq_true he)]
theorem cntT_0 {t : Int} {bs : List Let} {k q : Nat} (h : q = cntT t (bs.take k)) (hk : k < bs.length) (he : ¬ (bs.getD k default).to = t) : q = cntT t (bs.take (k + 1)) := by
  subst h
  rw [List.getD_eq_getElem?_getD, List.getElem?_eq_getElem hk, Option.getD_some] at he
  unfold cntT
  rw [List.take_succ_eq_append_getElem hk, List.countP_append, List.countP_singleton, if_neg (by simpa using he), Nat.add_zero]
theorem getL_mem {us : List Let} {i : Nat} (h : i < us.length) : us.getD i default ∈ us := by
  rw [List.getD_eq_getElem?_getD, List.getElem?_eq_getElem h]
  exact List.getElem_mem h
theorem cutL_mem {us : List Let} {i : Nat} {x : Let} (h : x ∈ cutL us i) : x ∈ us := by
  rcases List.mem_append.1 h with h | h
  · exact List.mem_of_mem_take h
  · exact List.mem_of_mem_drop h
theorem dl_sub {us bs : List Let} {i : Nat} (h : i < us.length) : ∀ x ∈ cutL us i ++ (bs ++ [us.getD i default]), x ∈ us ++ bs := by
  intro x hx
  rcases List.mem_append.1 hx with hx | hx
  · exact List.mem_append_left _ (cutL_mem hx)
  · rcases List.mem_append.1 hx with hx | hx
    · exact List.mem_append_right _ hx
    · rw [List.mem_singleton] at hx
      subst hx
      exact List.mem_append_left _ (getL_mem h)
theorem db_sub {us bs : List Let} {i : Nat} (h : i < us.length) : ∀ x ∈ us ++ [us.getD i default] ++ bs, x ∈ us ++ bs := by
  intro x hx
  rcases List.mem_append.1 hx with hx | hx
  · rcases List.mem_append.1 hx with hx | hx
    · exact List.mem_append_left _ hx
    · rw [List.mem_singleton] at hx
      subst hx
      exact List.mem_append_left _ (getL_mem h)
  · exact List.mem_append_right _ hx
theorem dr_sub {us bs : List Let} {i : Nat} : ∀ x ∈ cutL us i ++ bs, x ∈ us ++ bs := by
  intro x hx
  rcases List.mem_append.1 hx with hx | hx
  · exact List.mem_append_left _ (cutL_mem hx)
  · exact List.mem_append_right _ hx
theorem tk_sub {us bs : List Let} {i : Nat} : ∀ x ∈ us ++ cutL bs i, x ∈ us ++ bs := by
  intro x hx
  rcases List.mem_append.1 hx with hx | hx
  · exact List.mem_append_left _ hx
  · exact List.mem_append_right _ (cutL_mem hx)
theorem sd_sub {us bs : List Let} {z : Let} : ∀ y ∈ us ++ [z] ++ bs, y = z ∨ y ∈ us ++ bs := by
  intro x hx
  rcases List.mem_append.1 hx with hx | hx
  · rcases List.mem_append.1 hx with hx | hx
    · exact .inr (List.mem_append_left _ hx)
    · exact .inl (List.mem_singleton.1 hx)
  · exact .inr (List.mem_append_right _ hx)
end Go.Proofs.Ytldkjjnjdjfipaa
