/- P19g: what a play of the wire's calls keeps. Plain. -/
import Derived.Test.YtldkjjnjdjfipaaP19f
namespace Go.Proofs.Ytldkjjnjdjfipaa
open Go Go.RowKit
set_option linter.unusedVariables false
set_option linter.unusedSimpArgs false
structure WOp where
  k : Int
  n : Int
  to : Int
  a : Option Addr
  m : Nat
  c : Nat
  b : List UInt8
instance : Inhabited WOp := ⟨⟨0, 0, 0, none, 0, 0, []⟩⟩
@[reducible] def wopV (x : WOp) : List Value := [.int .i64 x.k, .int .i64 x.n, .int .i64 x.to, .slice x.a x.m x.c]
theorem wopV_len (x : WOp) : (wopV x).length = 4 := rfl
theorem wopV_one (x : WOp) : (wopV x).all Value.oneCell' = true := rfl
theorem getO_mem {sl : List WOp} {i : Nat} (h : i < sl.length) : sl.getD i default ∈ sl := by
  rw [List.getD_eq_getElem?_getD, List.getElem?_eq_getElem h]
  exact List.getElem_mem h
theorem tkD_len {t : Int} {bs : List Let} (h : LOK bs) : (tkD t bs).length ≤ 1000000 := by
  unfold tkD
  split
  · have h2 := h _ (getL_mem (by assumption))
    omega
  · exact Nat.zero_le _
section
variable {us bs : List Let} {z t : Int}
theorem lokw_drp (h : LOK (us ++ bs)) : LOK (dlU us z ++ bs) := fun x hx => h x (dr_mem hx)
theorem lokw_dbl (h : LOK (us ++ bs)) : LOK (dbU us z ++ bs) := fun x hx => h x (db_mem hx)
theorem lokw_tk (h : LOK (us ++ bs)) : LOK (us ++ tkB t bs) := fun x hx => h x (tk_mem hx)
theorem lokw_kp (h : LOK (us ++ bs)) : LOK (us ++ kpT t bs) := fun x hx => h x (kp_sub x hx)
theorem lokw_b (h : LOK (us ++ bs)) : LOK bs := fun x hx => h x (List.mem_append_right _ hx)
theorem lokw_send (h : LOK (us ++ bs)) {to : Int} {a : Option Addr} {c : Nat} {d : List UInt8} (hd : d.length ≤ 1000000) : LOK (us ++ [Let.mk to a d.length c d] ++ bs) := fun x hx => by
  rcases sd_sub x hx with rfl | hx
  · exact ⟨rfl, hd⟩
  · exact h x hx
end
end Go.Proofs.Ytldkjjnjdjfipaa
