/- P17b: the tasks of a run, told by number and listed in order. Plain. -/
import Derived.Test.YtldkjjnjdjfipaaP17
import Derived.Test.YtldkjjnjdjfipaaWRef13
namespace Go.Proofs.Ytldkjjnjdjfipaa
open Go Go.RowKit
set_option linter.unusedVariables false
set_option linter.unusedSimpArgs false

structure Task where
  t0 : Int
  t1 : Int
  t2 : Int
  t3 : Int
  t4 : Bool
deriving DecidableEq
instance : Inhabited Task := ⟨⟨0, 0, 0, 0, false⟩⟩
@[reducible] def taskV (p : Task) : List Value := [.int .i64 p.t0, .int .i64 p.t1, .int .i64 p.t2, .int .i64 p.t3, .bool p.t4]
theorem taskV_len (p : Task) : (taskV p).length = 5 := rfl
theorem taskV_one (p : Task) : (taskV p).all Value.oneCell' = true := rfl

/-- pair j of a network of w slots -/
def prA (w j : Nat) : Nat := j % (w / 2) / far w ((j / (w / 2) : Nat) : Int) * far w ((j / (w / 2) : Nat) : Int) * 2 + j % (w / 2) % far w ((j / (w / 2) : Nat) : Int)
def prT (w : Nat) (k : Int) (j : Nat) : Task := ⟨k, ((j / (w / 2) + 1 : Nat) : Int), ((prA w j : Nat) : Int), ((prA w j + far w ((j / (w / 2) : Nat) : Int) : Nat) : Int), up w ((j / (w / 2) : Nat) : Int) ((prA w j : Nat) : Int)⟩
/-- a round's tasks, a network's -/
def rowT (w : Nat) (k : Int) (r : Nat) : List Task := (frs w ((r : Nat) : Int)).map fun (a : Nat) => ⟨k, ((r + 1 : Nat) : Int), ((a : Nat) : Int), ((a + far w ((r : Nat) : Int) : Nat) : Int), up w ((r : Nat) : Int) ((a : Nat) : Int)⟩
def sortsT (w : Nat) (k : Int) (r : Nat) : List Task := (List.range r).flatMap (rowT w k)
theorem chk : ∀ w ∈ [2, 4, 8], (List.range (rnd ((w : Nat) : Int) * (w / 2))).map (prT w 0) = sortsT w 0 (rnd ((w : Nat) : Int)) := by decide +kernel
def setK (k : Int) (t : Task) : Task := ⟨k, t.t1, t.t2, t.t3, t.t4⟩
theorem sortsT_K (w : Nat) (k : Int) (r : Nat) : sortsT w k r = (sortsT w 0 r).map (setK k) := by
  unfold sortsT
  rw [List.map_flatMap]
  congr 1
  funext r
  unfold rowT
  rw [List.map_map]
  rfl
theorem chkK {w : Nat} (h : w ∈ [2, 4, 8]) (k : Int) : (List.range (rnd ((w : Nat) : Int) * (w / 2))).map (prT w k) = sortsT w k (rnd ((w : Nat) : Int)) := by
  rw [sortsT_K, ← chk w h, List.map_map]
  rfl
theorem ofP_0 (p : Par) : 0 ≤ (ofP p).q0 * bk p ∧ (ofP p).q0 * bk p ≤ 256 ∧ (ofP p).q0 * bk p = p.n1 * bk p := by
  have h2 := nbk_bd p
  cases h : ok p
  · rw [ofP_no h, bk_no h]
    simp
  · rw [ofP_yes h]
    exact ⟨h2.1, h2.2, rfl⟩
theorem ofP_1 (p : Par) : (ofP p).q1 = bk p := by
  cases h : ok p
  · rw [ofP_no h, bk_no h]
  · rw [ofP_yes h]
theorem ofP_4 (p : Par) : (ofP p).q4 = ((sl p / 2 : Nat) : Int) := by
  cases h : ok p
  · rw [ofP_no h, sl_no h]; rfl
  · rw [ofP_yes h]
theorem ofP_5 (p : Par) : (ofP p).q5 = bk p := by
  cases h : ok p
  · rw [ofP_no h, bk_no h]
  · rw [ofP_yes h]
theorem rh_no {p : Par} (h : ok p = false) : rh p = 0 := by unfold rh; rw [sl_no h]; rfl
theorem ofP_6 (p : Par) : (ofP p).q6 = bk p + sl p - p.n1 * bk p := by
  cases h : ok p
  · rw [ofP_no h, bk_no h, sl_no h]; simp
  · rw [ofP_yes h]
theorem ofP_7 (p : Par) : (ofP p).q7 = (ofP p).q6 + rh p := by
  cases h : ok p
  · rw [ofP_no h, rh_no h]; simp
  · rw [ofP_yes h]
theorem ofP_8 (p : Par) : (ofP p).q8 = (ofP p).q7 + sl p := by
  cases h : ok p
  · rw [ofP_no h, sl_no h]; simp
  · rw [ofP_yes h]
theorem ofP_9 (p : Par) : (ofP p).q9 = (ofP p).q8 + rh p := by
  cases h : ok p
  · rw [ofP_no h, rh_no h]; simp
  · rw [ofP_yes h]
/-- the slots hold the blocks -/
theorem nb_sl (p : Par) : p.n1 * bk p ≤ sl p := by
  cases h : ok p
  · rw [bk_no h, sl_no h]; simp
  · rw [bk_yes h, sl_yes h]
    have h1 := ok_bd h
    have h2 := ok_cdv h
    have h3 := nb_bd (a := p.n1) (c := cdv p.n0 p.n2) (by omega) (by omega) (by omega) (by omega)
    have h4 := pd4 (p.n1 * cdv p.n0 p.n2 + 1)
    omega
def cnt (p : Par) : Nat := (bk p).toNat + (sl p - (p.n1 * bk p).toNat) + rh p + sl p + rh p
theorem cnt_eq (p : Par) : (ofP p).q9 = ((cnt p : Nat) : Int) := by
  have h1 := bk_bd p
  have h2 := nbk_bd p
  have h3 := nb_sl p
  rw [ofP_9, ofP_8, ofP_7, ofP_6]
  unfold cnt
  omega
/-- task i of a run, and whether there is one -/
def tkAt (p : Par) (i : Int) : Task × Bool :=
  if i < 0 ∨ (ofP p).q9 ≤ i then (⟨0, 0, 0, 0, false⟩, false)
  else if i < bk p then (⟨1, 0, i, 0, false⟩, true)
  else if i < (ofP p).q6 then (⟨2, 0, i - bk p + (ofP p).q0 * bk p, 0, false⟩, true)
  else if i < (ofP p).q7 then (prT (sl p) 3 (i - (ofP p).q6).toNat, true)
  else if i < (ofP p).q8 then (⟨4, 0, i - (ofP p).q7, 0, false⟩, true)
  else (prT (sl p) 5 (i - (ofP p).q8).toNat, true)
theorem tk_0 {p : Par} {i : Int} (h : i < 0 ∨ (ofP p).q9 ≤ i) : tkAt p i = (⟨0, 0, 0, 0, false⟩, false) := by unfold tkAt; rw [if_pos h]
theorem tk_1 {p : Par} {i : Int} (h : ¬ i < 0) (h9 : ¬ (ofP p).q9 ≤ i) (h1 : i < bk p) : tkAt p i = (⟨1, 0, i, 0, false⟩, true) := by unfold tkAt; rw [if_neg (by omega), if_pos h1]
theorem tk_2 {p : Par} {i : Int} (h : ¬ i < 0) (h9 : ¬ (ofP p).q9 ≤ i) (h1 : ¬ i < bk p) (h2 : i < (ofP p).q6) : tkAt p i = (⟨2, 0, i - bk p + (ofP p).q0 * bk p, 0, false⟩, true) := by unfold tkAt; rw [if_neg (by omega), if_neg h1, if_pos h2]
theorem tk_3 {p : Par} {i : Int} (h : ¬ i < 0) (h9 : ¬ (ofP p).q9 ≤ i) (h1 : ¬ i < bk p) (h2 : ¬ i < (ofP p).q6) (h3 : i < (ofP p).q7) : tkAt p i = (prT (sl p) 3 (i - (ofP p).q6).toNat, true) := by unfold tkAt; rw [if_neg (by omega), if_neg h1, if_neg h2, if_pos h3]
theorem tk_4 {p : Par} {i : Int} (h : ¬ i < 0) (h9 : ¬ (ofP p).q9 ≤ i) (h1 : ¬ i < bk p) (h2 : ¬ i < (ofP p).q6) (h3 : ¬ i < (ofP p).q7) (h4 : i < (ofP p).q8) : tkAt p i = (⟨4, 0, i - (ofP p).q7, 0, false⟩, true) := by unfold tkAt; rw [if_neg (by omega), if_neg h1, if_neg h2, if_neg h3, if_pos h4]
theorem tk_5 {p : Par} {i : Int} (h : ¬ i < 0) (h9 : ¬ (ofP p).q9 ≤ i) (h1 : ¬ i < bk p) (h2 : ¬ i < (ofP p).q6) (h3 : ¬ i < (ofP p).q7) (h4 : ¬ i < (ofP p).q8) : tkAt p i = (prT (sl p) 5 (i - (ofP p).q8).toNat, true) := by unfold tkAt; rw [if_neg (by omega), if_neg h1, if_neg h2, if_neg h3, if_neg h4]
/-- all tasks, as the run tells them and as the reference lists them -/
def tkN (p : Par) (k : Nat) : Task := (tkAt p ((k : Nat) : Int)).1
def tasksL (p : Par) : List Task := (List.range (cnt p)).map (tkN p)
def plT (k : Int) (b : Int) (i : Nat) : Task := ⟨k, 0, b + i, 0, false⟩
def refT (p : Par) : List Task :=
  (List.range (bk p).toNat).map (plT 1 0) ++ (List.range (sl p - (p.n1 * bk p).toNat)).map (plT 2 (p.n1 * bk p)) ++ sortsT (sl p) 3 (rnd ((sl p : Nat) : Int)) ++ (List.range (sl p)).map (plT 4 0) ++ sortsT (sl p) 5 (rnd ((sl p : Nat) : Int))
theorem map_add {α : Type} (f : Nat → α) (a b : Nat) : (List.range (a + b)).map f = (List.range a).map f ++ (List.range b).map (fun i => f (a + i)) := by
  rw [List.range_add, List.map_append, List.map_map]
  rfl
theorem map_eq {α : Type} {f g : Nat → α} {a : Nat} (h : ∀ i, i < a → f i = g i) : (List.range a).map f = (List.range a).map g := List.map_congr_left fun i hi => h i (List.mem_range.1 hi)
theorem tasks_ref {p : Par} (h : sl p ∈ [2, 4, 8]) : tasksL p = refT p := by
  have b1 := bk_bd p
  have b2 := nbk_bd p
  have b3 := nb_sl p
  have b4 := ofP_6 p
  have b5 := ofP_7 p
  have b6 := ofP_8 p
  have b7 := ofP_9 p
  have b8 := cnt_eq p
  have b9 := ofP_0 p
  have hc : cnt p = (bk p).toNat + (sl p - (p.n1 * bk p).toNat) + rh p + sl p + rh p := rfl
  unfold tasksL refT
  rw [hc, map_add, map_add, map_add, map_add]
  rw [← chkK h 3, ← chkK h 5]
  congr 1
  · congr 1
    · congr 1
      · congr 1
        · refine map_eq fun i hi => ?_
          unfold tkN
          rw [tk_1 (by omega) (by omega) (by omega)]
          simp [plT]
        · refine map_eq fun i hi => ?_
          unfold tkN
          rw [tk_2 (by omega) (by omega) (by omega) (by omega)]
          unfold plT
          simp only [Task.mk.injEq, true_and, and_true]
          omega
      · refine map_eq fun i hi => ?_
        unfold tkN
        rw [tk_3 (by omega) (by omega) (by omega) (by omega) (by omega)]
        show prT _ _ _ = _
        congr 1
        omega
    · refine map_eq fun i hi => ?_
      unfold tkN
      rw [tk_4 (by omega) (by omega) (by omega) (by omega) (by omega) (by omega)]
      unfold plT
      simp only [Task.mk.injEq, true_and, and_true]
      omega
  · refine map_eq fun i hi => ?_
    have hi2 : i < rh p := hi
    unfold tkN
    rw [tk_5 (by omega) (by omega) (by omega) (by omega) (by omega) (by omega)]
    show prT _ _ _ = _
    congr 1
    omega
/-- in a small trial there are 2, 4 or 8 slots -/
theorem pads : ∀ x : Nat, x < 8 → 1 ≤ x → pad ((x : Nat) + 1 : Int) ∈ [2, 4, 8] := by decide +kernel
theorem few_sl {p : Par} (h : ok (few p) = true) : sl (few p) ∈ [2, 4, 8] := by
  have hp : ok p = true := by
    cases h1 : ok p
    · rw [few_no h1, h1] at h; cases h
    · rfl
  have h2 := (few_small hp).2
  have h3 := ok_bd h
  have h4 := ok_cdv h
  have h5 := nb_bd (a := (few p).n1) (c := cdv (few p).n0 (few p).n2) (by omega) (by omega) (by omega) (by omega)
  rw [sl_yes h]
  have h6 := pads ((few p).n1 * cdv (few p).n0 (few p).n2).toNat (by omega) (by omega)
  rw [show ((((few p).n1 * cdv (few p).n0 (few p).n2).toNat : Nat) : Int) = (few p).n1 * cdv (few p).n0 (few p).n2 by omega] at h6
  exact h6
theorem few_tasks (p : Par) : tasksL (few p) = refT (few p) := by
  cases h : ok (few p)
  · have e : cnt (few p) = 0 := by
      have := cnt_eq (few p)
      rw [ofP_no h] at this
      have h2 : ((cnt (few p) : Nat) : Int) = 0 := this.symm
      omega
    unfold tasksL refT
    rw [e, bk_no h, sl_no h, Nat.zero_sub, show rnd ((0 : Nat) : Int) = 0 by decide +kernel]
    rfl
  · exact tasks_ref (few_sl h)
theorem cnt_le (p : Par) : cnt (few p) ≤ 128 := by
  have b1 := bk_bd (few p)
  cases h : ok (few p)
  · have := cnt_eq (few p)
    rw [ofP_no h] at this
    have h2 : ((cnt (few p) : Nat) : Int) = 0 := this.symm
    omega
  · have h1 := few_sl h
    have h2 : rh (few p) ≤ 24 ∧ sl (few p) ≤ 8 := by
      unfold rh
      generalize sl (few p) = w at h1
      have : ∀ w ∈ [2, 4, 8], rnd ((w : Nat) : Int) * (w / 2) ≤ 24 ∧ w ≤ 8 := by decide +kernel
      exact this w h1
    unfold cnt
    show (bk (few p)).toNat + _ + _ + _ + _ ≤ 128
    omega
end Go.Proofs.Ytldkjjnjdjfipaa
