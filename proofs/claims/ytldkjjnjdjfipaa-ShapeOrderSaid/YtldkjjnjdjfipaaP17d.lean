/- P17d: which task makes a spot by the reference's search, when a task is ready, and the order of tasks. Plain. -/
import Derived.Test.YtldkjjnjdjfipaaP17c
namespace Go.Proofs.Ytldkjjnjdjfipaa
open Go Go.RowKit
set_option linter.unusedVariables false
set_option linter.unusedSimpArgs false

/-- no task ahead of i writes s -/
def NoW (p : Par) (i : Nat) (s : Spot) : Prop := ∀ k, k < i → s ∉ writesT p.n1 (tkN p k)
theorem noW_0 (p : Par) (s : Spot) : NoW p 0 s := fun k h => by omega
/-- s is not among the first j of l -/
def NoI (l : List Spot) (j : Nat) (s : Spot) : Prop := s ∉ l.take j
theorem noI_0 (l : List Spot) (s : Spot) : NoI l 0 s := by simp [NoI]
theorem noI_step {l : List Spot} {j : Nat} {s : Spot} (hj : j < l.length) (h : NoI l j s) (h2 : ¬ l.getD j default = s) : NoI l (j + 1) s := by
  unfold NoI at *
  rw [List.take_succ_eq_append_getElem hj]
  intro h3
  rcases List.mem_append.1 h3 with h4 | h4
  · exact h h4
  · rw [List.mem_singleton] at h4
    refine h2 ?_
    rw [List.getD_eq_getElem?_getD, List.getElem?_eq_getElem hj, h4]
    rfl
theorem noI_end {l : List Spot} {j : Nat} {s : Spot} (hj : l.length ≤ j) (h : NoI l j s) : s ∉ l := by
  unfold NoI at h
  rwa [List.take_of_length_le hj] at h
theorem noW_step {p : Par} {i j : Nat} {s : Spot} {t : Task} (ht : t = tkN p i) (h : NoW p i s) (hj : (writesT p.n1 t).length ≤ j) (h2 : NoI (writesT p.n1 t) j s) : NoW p (i + 1) s := by
  subst ht
  intro k hk
  by_cases h3 : k = i
  · subst h3
    exact noI_end hj h2
  · exact h k (by omega)
theorem getD_mem {α : Type} [Inhabited α] {l : List α} {j : Nat} (hj : j < l.length) : l.getD j default ∈ l := by
  rw [List.getD_eq_getElem?_getD, List.getElem?_eq_getElem hj]
  exact List.getElem_mem hj
theorem mk_hit {p : Par} (hsm : Small p) {i j : Nat} {s : Spot} {t : Task} (ht : t = tkN p i) (hi : i < cnt p) (hj : j < (writesT p.n1 t).length) (h2 : (writesT p.n1 t).getD j default = s) : makesP p s = ((i : Nat) : Int) := by
  subst ht
  subst h2
  exact hsm.mk1 i hi _ (getD_mem hj)
theorem mk_no {p : Par} (hsm : Small p) {i : Nat} {s : Spot} (hi : cnt p ≤ i) (h : NoW p i s) : makesP p s = -1 := by
  by_cases h1 : makesP p s = -1
  · exact h1
  · obtain ⟨h2, h3, h4⟩ := hsm.mk2 s h1
    exact absurd h4 (h _ (by omega))
/-- a spot that is still to be made -/
def openS (p : Par) (d : List Bool) (s : Spot) : Bool := decide (0 ≤ makesP p s) && !(d.getD (makesP p s).toNat default)
def readyP (p : Par) (d : List Bool) (i : Int) : Bool := (tkAt p i).2 && (readsP p i).all (fun s => !openS p d s)
theorem open_hi {p : Par} {d : List Bool} {s : Spot} (h : ((d.length : Nat) : Int) ≤ makesP p s) : openS p d s = true := by
  unfold openS
  rw [decide_eq_true (by omega), List.getD_eq_getElem?_getD, List.getElem?_eq_none (by omega)]
  rfl
theorem open_lo {p : Par} {d : List Bool} {s : Spot} (h : ¬ 0 ≤ makesP p s) : openS p d s = false := by
  unfold openS
  rw [decide_eq_false h]
  rfl
theorem open_at {p : Par} {d : List Bool} {s : Spot} {b : Bool} (h : 0 ≤ makesP p s) (h2 : d.getD (makesP p s).toNat default = b) : openS p d s = !b := by
  unfold openS
  rw [decide_eq_true h, h2]
  rfl
def NoO (p : Par) (d : List Bool) (l : List Spot) (j : Nat) : Prop := ∀ q, q < j → openS p d (l.getD q default) = false
theorem noO_0 (p : Par) (d : List Bool) (l : List Spot) : NoO p d l 0 := fun q h => by omega
theorem noO_step {p : Par} {d : List Bool} {l : List Spot} {j : Nat} (h : NoO p d l j) (h2 : openS p d (l.getD j default) = false) : NoO p d l (j + 1) := by
  intro q hq
  by_cases h3 : q = j
  · rw [h3]; exact h2
  · exact h q (by omega)
theorem rdy_no {p : Par} {d : List Bool} {i : Int} (h : (tkAt p i).2 = false) : readyP p d i = false := by unfold readyP; rw [h]; rfl
theorem rdy_hit {p : Par} {d : List Bool} {i : Int} {j : Nat} (hj : j < (readsP p i).length) (h : openS p d ((readsP p i).getD j default) = true) : readyP p d i = false := by
  unfold readyP
  have h2 : (readsP p i).all (fun s => !openS p d s) = false := by
    rw [List.all_eq_false]
    exact ⟨_, getD_mem hj, by rw [h]; decide⟩
  rw [h2, Bool.and_false]
theorem rdy_all {p : Par} {d : List Bool} {i : Int} {j : Nat} (h1 : (tkAt p i).2 = true) (hj : (readsP p i).length ≤ j) (h : NoO p d (readsP p i) j) : readyP p d i = true := by
  unfold readyP
  have h2 : (readsP p i).all (fun s => !openS p d s) = true := by
    rw [List.all_eq_true]
    intro x hx
    obtain ⟨q, hq, e⟩ := List.getElem_of_mem hx
    have h3 := h q (by omega)
    rw [List.getD_eq_getElem?_getD, List.getElem?_eq_getElem hq, Option.getD_some, e] at h3
    rw [h3]
    rfl
  rw [h1, h2]
  rfl
/-! the order -/
theorem chk5 : ∀ x ∈ shps, ∀ k ∈ List.range (cnt (shp x.1 x.2)), (writesT ((x.1 : Nat) : Int) (tkN (shp x.1 x.2) k)).Nodup := by decide +kernel
theorem chk6 : ∀ x ∈ shps, ∀ k ∈ List.range (cnt (shp x.1 x.2)), ∀ s ∈ readsT (sl (shp x.1 x.2)) (tkN (shp x.1 x.2) k), makesP (shp x.1 x.2) s < ((k : Nat) : Int) ∧ (makesP (shp x.1 x.2) s < 0 → s.s0 = 0) := by decide +kernel
theorem chk7 : ∀ x ∈ shps, ∀ s ∈ lastS (shp x.1 x.2), makesP (shp x.1 x.2) s ≠ -1 := by decide +kernel
theorem last_same {p q : Par} (e : sl p = sl q) (e3 : ofP p = ofP q) : lastS p = lastS q := by unfold lastS; rw [e, e3]
structure Order (p : Par) : Prop where
  nd : ∀ k, k < cnt p → (writesT p.n1 (tkN p k)).Nodup
  rd : ∀ k, k < cnt p → ∀ s ∈ readsT (sl p) (tkN p k), makesP p s < ((k : Nat) : Int) ∧ (makesP p s < 0 → s.s0 = 0)
  la : ∀ s ∈ lastS p, makesP p s ≠ -1
theorem orderF (p : Par) : Order (few p) := by
  refine ⟨fun k hk => ?_, fun k hk s hs => ?_, fun s hs => ?_⟩
  · obtain ⟨x, hx, e0, e1, e2, e3, e4⟩ := few_same (cnt_ok hk)
    rw [e0, tkN_same e1 e2 e3]
    exact chk5 x hx k (List.mem_range.2 (by omega))
  · obtain ⟨x, hx, e0, e1, e2, e3, e4⟩ := few_same (cnt_ok hk)
    rw [makes_same e1 e2 e3]
    rw [e2, tkN_same e1 e2 e3] at hs
    exact chk6 x hx k (List.mem_range.2 (by omega)) s hs
  · cases h : ok (few p)
    · exfalso
      have h0 : lastS (few p) = [] := by unfold lastS; rw [sl_no h]; rfl
      rw [h0] at hs
      cases hs
    · obtain ⟨x, hx, e0, e1, e2, e3, e4⟩ := few_same h
      rw [makes_same e1 e2 e3]
      rw [last_same e2 e3] at hs
      exact chk7 x hx s hs
/-- all that is written ahead of task i -/
def allW (p : Par) (i : Nat) : List Spot := (List.range i).flatMap fun k => writesT p.n1 (tkN p k)
theorem allW_next (p : Par) (i : Nat) : allW p i ++ writesT p.n1 (tkN p i) = allW p (i + 1) := by simp [allW, List.range_succ]
theorem mem_allW {p : Par} {i : Nat} {s : Spot} : s ∈ allW p i ↔ ∃ k, k < i ∧ s ∈ writesT p.n1 (tkN p k) := by simp [allW]
theorem all_new {p : Par} (hsm : Small p) (ho : Order p) {i k : Nat} (hi : i < cnt p) (hk : k < (writesT p.n1 (tkN p i)).length) : (writesT p.n1 (tkN p i)).getD k default ∉ allW p i ++ (writesT p.n1 (tkN p i)).take k := by
  intro h
  have hm := getD_mem hk
  rcases List.mem_append.1 h with h1 | h1
  · obtain ⟨q, hq, h2⟩ := mem_allW.1 h1
    have a := hsm.mk1 q (by omega) _ h2
    have b := hsm.mk1 i hi _ hm
    omega
  · have hn := ho.nd i hi
    obtain ⟨q, hq, e⟩ := List.getElem_of_mem h1
    rw [List.length_take] at hq
    rw [List.getElem_take, List.getD_eq_getElem?_getD, List.getElem?_eq_getElem hk, Option.getD_some] at e
    have := (List.getElem_inj hn).1 e
    omega
theorem all_makes {p : Par} (hsm : Small p) {i k : Nat} (hi : i < cnt p) (hk : k < (writesT p.n1 (tkN p i)).length) : makesP p ((writesT p.n1 (tkN p i)).getD k default) = ((i : Nat) : Int) := hsm.mk1 i hi _ (getD_mem hk)
theorem all_last {p : Par} (hsm : Small p) (ho : Order p) {k : Nat} (hk : k < (lastS p).length) : (lastS p).getD k default ∈ allW p (cnt p) := by
  have h1 := ho.la _ (getD_mem hk)
  obtain ⟨h2, h3, h4⟩ := hsm.mk2 _ h1
  exact mem_allW.2 ⟨_, by omega, h4⟩
/-- the first i are done -/
def doneTo (N i : Nat) : List Bool := (List.range N).map fun k => decide (k < i)
theorem doneTo_len (N i : Nat) : (doneTo N i).length = N := by simp [doneTo]
theorem doneTo_0 (N : Nat) : List.replicate N false = doneTo N 0 := by
  apply List.ext_getElem
  · simp [doneTo]
  · intro k h1 h2
    simp [doneTo]
theorem doneTo_set {N i : Nat} (h : i < N) : (doneTo N i).set i true = doneTo N (i + 1) := by
  apply List.ext_getElem
  · simp [doneTo]
  · intro k h1 h2
    rw [List.getElem_set]
    simp only [doneTo, List.getElem_map, List.getElem_range]
    split
    · exact (decide_eq_true (by omega)).symm
    · exact decide_eq_decide.2 (by omega)
theorem doneTo_at {N i k : Nat} (h : k < i) (h2 : k < N) : (doneTo N i).getD k default = true := by
  rw [List.getD_eq_getElem?_getD, List.getElem?_eq_getElem (by rw [doneTo_len]; exact h2), Option.getD_some]
  simp [doneTo, h]
theorem reads_at {p : Par} {i : Nat} (hi : i < cnt p) : readsP p ((i : Nat) : Int) = readsT (sl p) (tkN p i) := by
  have h : (tkAt p ((i : Nat) : Int)).2 = true := tk_some.trans (decide_eq_true (by omega))
  unfold readsP
  rw [if_pos h]
  rfl
theorem writes_at {p : Par} {i : Nat} (hi : i < cnt p) : writesP p ((i : Nat) : Int) = writesT p.n1 (tkN p i) := by
  have h : (tkAt p ((i : Nat) : Int)).2 = true := tk_some.trans (decide_eq_true (by omega))
  unfold writesP
  rw [if_pos h]
  rfl
theorem all_read {p : Par} (ho : Order p) {i k : Nat} (hi : i < cnt p) (hk : k < (readsP p ((i : Nat) : Int)).length) : makesP p ((readsP p ((i : Nat) : Int)).getD k default) < ((i : Nat) : Int) ∧ (makesP p ((readsP p ((i : Nat) : Int)).getD k default) < 0 → ((readsP p ((i : Nat) : Int)).getD k default).s0 = 0) := by
  have h := getD_mem hk
  generalize (readsP p ((i : Nat) : Int)).getD k default = s at *
  rw [reads_at hi] at h
  exact ho.rd i hi s h
theorem all_ready {p : Par} (hsm : Small p) (ho : Order p) {i : Nat} (hi : i < cnt p) : readyP p (doneTo (cnt p) i) ((i : Nat) : Int) = true := by
  have h : (tkAt p ((i : Nat) : Int)).2 = true := tk_some.trans (decide_eq_true (by omega))
  refine rdy_all h (Nat.le_refl _) fun q hq => ?_
  have h1 := all_read ho hi hq
  generalize (readsP p ((i : Nat) : Int)).getD q default = s at *
  by_cases h2 : 0 ≤ makesP p s
  · rw [open_at h2 (doneTo_at (by omega) (by omega))]
    rfl
  · exact open_lo h2
theorem wlen_bd {p : Par} (h : p.n1 ≤ 4) (t : Task) : (writesT p.n1 t).length ≤ 4 := by
  unfold writesT
  repeat' split
  all_goals simp [blkS] <;> omega
theorem rlen_bd (w : Nat) (t : Task) : (readsT w t).length ≤ 2 := by
  unfold readsT
  repeat' split
  all_goals simp
theorem reads_len (p : Par) (i : Int) : (readsP p i).length ≤ 2 := by
  unfold readsP
  split
  · exact rlen_bd _ _
  · simp
theorem allW_len {p : Par} (h : p.n1 ≤ 4) : ∀ i : Nat, (allW p i).length ≤ 4 * i
  | 0 => by simp [allW]
  | i + 1 => by
    have := allW_len h i
    have h2 := wlen_bd h (tkN p i)
    rw [← allW_next, List.length_append]
    omega
end Go.Proofs.Ytldkjjnjdjfipaa
