/- P19e: letters are taken in the order in which they were sent. Plain. -/
import Derived.Test.YtldkjjnjdjfipaaP19d
import Derived.Test.YtldkjjnjdjfipaaP13b
namespace Go.Proofs.Ytldkjjnjdjfipaa
open Go Go.RowKit
set_option linter.unusedVariables false
set_option linter.unusedSimpArgs false
def kd (x : Let) : Int × List UInt8 := (x.to, x.d)
def tO (sl : List Int) (q : Nat) : Nat := u64of (sl.getD q default) % 3
def eO (sl : List Int) (q : Nat) : Int × List UInt8 := (((tO sl q : Nat) : Int), [UInt8.ofNat q])
def sentO (sl : List Int) (i : Nat) : List (Int × List UInt8) := (List.range i).map (eO sl)
theorem sent_next (sl : List Int) (i : Nat) : sentO sl i ++ [eO sl i] = sentO sl (i + 1) := by simp [sentO, List.range_succ]
theorem sent_len (sl : List Int) (i : Nat) : (sentO sl i).length = i := by simp [sentO]
def remP (sl : List Int) (k i q : Nat) : Bool := decide (k < tO sl q) || (decide (tO sl q = k) && decide (i ≤ q))
def remO (sl : List Int) (z k i : Nat) : List (Int × List UInt8) := ((List.range z).filter (remP sl k i)).map (eO sl)
theorem rem_0 (sl : List Int) (z : Nat) : sentO sl z = remO sl z 0 0 := by
  unfold sentO remO
  rw [List.filter_eq_self.2]
  intro q hq
  unfold remP
  by_cases h : 0 < tO sl q
  · simp [h]
  · have : tO sl q = 0 := by omega
    simp [this]
theorem rem_next (sl : List Int) (z k : Nat) : remO sl z k z = remO sl z (k + 1) 0 := by
  unfold remO
  congr 1
  refine List.filter_congr fun q hq => ?_
  have hq2 := List.mem_range.1 hq
  unfold remP
  rw [Bool.eq_iff_iff]
  simp only [Bool.or_eq_true, Bool.and_eq_true, decide_eq_true_eq]
  omega
theorem range_split {z i : Nat} (h : i < z) : List.range z = List.range i ++ i :: (List.range z).drop (i + 1) := by
  have h1 : (List.range z).take i = List.range i := by rw [List.take_range]; congr 1; omega
  have h2 : (List.range z).drop i = i :: (List.range z).drop (i + 1) := by
    rw [List.drop_eq_getElem_cons (by simpa using h)]
    simp
  rw [← h1, ← h2, List.take_append_drop]
theorem mem_drop_range {z j q : Nat} (h : q ∈ (List.range z).drop j) : j ≤ q := by
  obtain ⟨k, hk, e⟩ := List.getElem_of_mem h
  rw [List.getElem_drop, List.getElem_range] at e
  omega
theorem rem_skip {sl : List Int} {z k i : Nat} (h : ¬ tO sl i = k) : remO sl z k i = remO sl z k (i + 1) := by
  unfold remO
  congr 1
  refine List.filter_congr fun q hq => ?_
  unfold remP
  rw [Bool.eq_iff_iff]
  simp only [Bool.or_eq_true, Bool.and_eq_true, decide_eq_true_eq]
  by_cases e : q = i
  · subst e; omega
  · omega
theorem rem_split {sl : List Int} {z k i : Nat} (hi : i < z) (h : tO sl i = k) : ∃ A C, remO sl z k i = A ++ eO sl i :: C ∧ remO sl z k (i + 1) = A ++ C ∧ ∀ p ∈ A, ¬ p.1 = ((k : Nat) : Int) := by
  refine ⟨((List.range i).filter (remP sl k i)).map (eO sl), (((List.range z).drop (i + 1)).filter (remP sl k i)).map (eO sl), ?_, ?_, ?_⟩
  · unfold remO
    rw [range_split hi, List.filter_append, List.filter_cons, if_pos (by unfold remP; simp [h]), List.map_append, List.map_cons]
    rw [← range_split hi]
  · unfold remO
    conv => lhs; rw [range_split hi]
    rw [List.filter_append, List.filter_cons, if_neg (by unfold remP; simp [h]), List.map_append]
    congr 2
    · refine List.filter_congr fun q hq => ?_
      have := List.mem_range.1 hq
      unfold remP
      rw [Bool.eq_iff_iff]
      simp only [Bool.or_eq_true, Bool.and_eq_true, decide_eq_true_eq]
      omega
    · refine List.filter_congr fun q hq => ?_
      have := mem_drop_range hq
      unfold remP
      rw [Bool.eq_iff_iff]
      simp only [Bool.or_eq_true, Bool.and_eq_true, decide_eq_true_eq]
      omega
  · intro p hp
    obtain ⟨q, hq, rfl⟩ := List.mem_map.1 hp
    have h2 := List.mem_filter.1 hq
    have h3 := List.mem_range.1 h2.1
    have h4 := h2.2
    unfold remP at h4
    simp only [Bool.or_eq_true, Bool.and_eq_true, decide_eq_true_eq] at h4
    show ¬ ((tO sl q : Nat) : Int) = ((k : Nat) : Int)
    omega
theorem map_split {bs : List Let} {A C : List (Int × List UInt8)} {e : Int × List UInt8} (h : bs.map kd = A ++ e :: C) : ∃ P y Q, bs = P ++ y :: Q ∧ P.map kd = A ∧ kd y = e ∧ Q.map kd = C := by
  obtain ⟨P, R, e1, e2, e3⟩ := List.map_eq_append_iff.1 h
  obtain ⟨y, Q, e4, e5, e6⟩ := List.map_eq_cons_iff.1 e3
  exact ⟨P, y, Q, by rw [e1, e4], e2, e5, e6⟩
theorem take_ok {sl : List Int} {bs : List Let} {z k i : Nat} (hb : bs.map kd = remO sl z k i) (hi : i < z) (h : tO sl i = k) :
    fdT ((k : Nat) : Int) bs < bs.length ∧ tkD ((k : Nat) : Int) bs = [UInt8.ofNat i] ∧ (tkB ((k : Nat) : Int) bs).map kd = remO sl z k (i + 1) := by
  obtain ⟨A, C, e1, e2, e3⟩ := rem_split hi h
  rw [e1] at hb
  obtain ⟨P, y, Q, rfl, g1, g2, g3⟩ := map_split hb
  have hlt : P.length < (P ++ y :: Q).length := by simp
  have hy : (P ++ y :: Q).getD P.length default = y := by simp [List.getD_eq_getElem?_getD]
  have hto : y.to = ((k : Nat) : Int) := by
    have := congrArg Prod.fst g2
    rw [← h]
    exact this
  have hno : NoT ((k : Nat) : Int) (P ++ y :: Q) P.length := by
    intro q hq
    have h5 : (P ++ y :: Q).getD q default = P[q] := by rw [List.getD_eq_getElem?_getD, List.getElem?_append_left hq, List.getElem?_eq_getElem hq]; rfl
    rw [h5]
    have h6 : kd P[q] ∈ A := by rw [← g1]; exact List.mem_map.2 ⟨_, List.getElem_mem hq, rfl⟩
    exact e3 _ h6
  have h7 := fd_at hno hlt (by rw [hy]; exact hto)
  have h8 := tk_1 hno hlt (by rw [hy]; exact hto)
  refine ⟨by rw [h7]; exact hlt, ?_, ?_⟩
  · rw [h8.2.1, hy]
    exact congrArg Prod.snd g2
  · rw [h8.1, e2]
    unfold cutL
    rw [List.take_left' rfl]
    have : (P ++ y :: Q).drop (P.length + 1) = Q := by
      rw [show P ++ y :: Q = (P ++ [y]) ++ Q by simp, List.drop_left' (by simp)]
    rw [this, List.map_append, g1, g3]
theorem take_none {sl : List Int} {bs : List Let} {z k i : Nat} (hb : bs.map kd = remO sl z k i) (hi : z ≤ i) : ¬ fdT ((k : Nat) : Int) bs < bs.length ∧ tkB ((k : Nat) : Int) bs = bs ∧ cntT ((k : Nat) : Int) bs = 0 := by
  have hno : ∀ x ∈ bs, ¬ x.to = ((k : Nat) : Int) := by
    intro x hx
    have h1 : kd x ∈ remO sl z k i := by rw [← hb]; exact List.mem_map.2 ⟨x, hx, rfl⟩
    obtain ⟨q, hq, e⟩ := List.mem_map.1 h1
    have h2 := List.mem_filter.1 hq
    have h3 := List.mem_range.1 h2.1
    have h4 := h2.2
    unfold remP at h4
    simp only [Bool.or_eq_true, Bool.and_eq_true, decide_eq_true_eq] at h4
    have h5 : ((tO sl q : Nat) : Int) = x.to := congrArg Prod.fst e
    omega
  have hn2 : NoT ((k : Nat) : Int) bs bs.length := fun q hq => hno _ (getL_mem hq)
  have h6 := tk_0 hn2 (Nat.le_refl _)
  refine ⟨of_decide_eq_false h6.2.2, h6.1, ?_⟩
  unfold cntT
  rw [List.countP_eq_zero]
  intro x hx
  simpa using hno x hx
theorem atI_first {k : Nat} : atI k 0 = 0 := by
  unfold atI
  split
  · rfl
  · simp
theorem atI_last {k : Nat} : atI (k + 1) ((k : Nat) : Int) = k := by
  unfold atI
  rw [if_neg (by omega)]
  have h1 : ((k : Nat) : Int).tmod ((k + 1 : Nat) : Int) = ((k : Nat) : Int) := by
    show ((k % (k + 1) : Nat) : Int) = _
    rw [Nat.mod_eq_of_lt (by omega)]
  rw [h1, show ((k : Nat) : Int) + ((k + 1 : Nat) : Int) = ((k + (k + 1) : Nat) : Int) by omega]
  show (((k + (k + 1)) % (k + 1) : Nat) : Int).toNat = k
  rw [Nat.add_mod_right, Nat.mod_eq_of_lt (by omega)]
  omega
theorem dbl_drp {us : List Let} {z : Nat} (h0 : us.length = z) (h : 0 < z) : dlU (dbU us 0) ((z : Nat) : Int) = us := by
  have e1 : dbU us 0 = us ++ [us.getD 0 default] := by unfold dbU; rw [if_neg (by omega), atI_first]
  have e2 : (us ++ [us.getD 0 default]).length = z + 1 := by simp [h0]
  rw [e1]
  unfold dlU
  rw [if_neg (by omega), e2, atI_last]
  unfold cutL
  rw [List.take_append_of_le_length (by omega), List.take_of_length_le (by omega), List.drop_of_length_le (by omega), List.append_nil]
theorem dbU_len {us : List Let} (h : 0 < us.length) : (dbU us 0).length = us.length + 1 := by unfold dbU; rw [if_neg (by omega)]; simp
theorem del_first {us bs : List Let} {E : List (Int × List UInt8)} (h : 0 < us.length) (hE : (bs ++ us).map kd = E) : (dlB us bs 0 ++ dlU us 0).map kd = E := by
  cases us with
  | nil => simp at h
  | cons y us =>
    have e1 : dlU (y :: us) 0 = us := by unfold dlU; rw [if_neg (by simp), atI_first]; rfl
    have e2 : dlB (y :: us) bs 0 = bs ++ [y] := by unfold dlB; rw [if_neg (by simp), atI_first]; rfl
    rw [e1, e2, ← hE]
    simp
theorem lok_app {us : List Let} {to : Int} {a : Option Addr} {c : Nat} {d : List UInt8} (h : LOK us) (hd : d.length ≤ 1000000) : LOK (us ++ [Let.mk to a d.length c d]) := by
  intro x hx
  rcases List.mem_append.1 hx with hx | hx
  · exact h x hx
  · rw [List.mem_singleton] at hx
    subst hx
    exact ⟨rfl, hd⟩
theorem lok_del {us bs : List Let} {i : Int} (h : LOK (us ++ bs)) : LOK (dlU us i ++ dlB us bs i) := fun x hx => h x (dl_mem hx)
theorem lok_tk {bs : List Let} {t : Int} (h : LOK bs) : LOK (tkB t bs) := by
  intro x hx
  have := tk_mem (us := []) (bs := bs) (t := t) (x := x) (by simpa using hx)
  exact h x (by simpa using this)
theorem lok_nil : LOK [] := fun x hx => by cases hx
theorem sent_app {us : List Let} {sl : List Int} {i : Nat} {a : Option Addr} {c : Nat} (h : us.map kd = sentO sl i) : (us ++ [Let.mk ((u64of (sl.getD i default) % 3 : Nat) : Int) a ([UInt8.ofNat i] : List UInt8).length c [UInt8.ofNat i]]).map kd = sentO sl (i + 1) := by
  rw [List.map_append, h, ← sent_next]
  rfl
end Go.Proofs.Ytldkjjnjdjfipaa
