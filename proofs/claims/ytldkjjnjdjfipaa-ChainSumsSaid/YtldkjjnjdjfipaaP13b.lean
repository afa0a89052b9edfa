/- Plain: numbers held against each other as the bitonic network says rise behind it. It states nothing of the program. -/
import Derived.Test.YtldkjjnjdjfipaaP13
namespace Go.Proofs.Ytldkjjnjdjfipaa.Bit
set_option linter.unusedVariables false
set_option linter.unusedSimpArgs false

/-- a pair of places, turned if need be -/
def cmpStep (up : Bool) (d : Nat) (x : List Int) (a : Nat) : List Int :=
  if (decide (x.getD (a + d) 0 < x.getD a 0) == up) = true ∧ x.getD a 0 ≠ x.getD (a + d) 0 then (x.set a (x.getD (a + d) 0)).set (a + d) (x.getD a 0) else x
def oneZ (v : Int) (x : List Int) (i : Nat) : Nat := if i < x.length ∧ x.getD i 0 < v then 1 else 0
theorem getD_setZ {x : List Int} {a c : Nat} {y : Int} (h : a < x.length) : (x.set a y).getD c 0 = if c = a then y else x.getD c 0 := by
  rw [List.getD_eq_getElem?_getD, List.getElem?_set]
  by_cases hc : c = a
  · subst hc; simp [h]
  · rw [if_neg (fun e => hc e.symm), if_neg hc, List.getD_eq_getElem?_getD]
theorem cmpStep_len (up : Bool) (d : Nat) (x : List Int) (a : Nat) : (cmpStep up d x a).length = x.length := by unfold cmpStep; split <;> simp
theorem cmp_step {up : Bool} {d : Nat} {x : List Int} {a : Nat} (hd : 0 < d) (ha : a + d < x.length) (v : Int) (c : Nat) : oneZ v (cmpStep up d x a) c = pairZ 1 d up a (oneZ v x) c := by
  unfold pairZ
  have e1 : oneZ v x a = if x.getD a 0 < v then 1 else 0 := by unfold oneZ; simp [show a < x.length by omega]
  have e2 : oneZ v x (a + d) = if x.getD (a + d) 0 < v then 1 else 0 := by unfold oneZ; simp [ha]
  rw [e1, e2]
  generalize hA : x.getD a 0 = A at *
  generalize hB : x.getD (a + d) 0 = B at *
  by_cases hs : (decide (B < A) == up) = true ∧ A ≠ B
  · have e3 : cmpStep up d x a = (x.set a B).set (a + d) A := by unfold cmpStep; rw [hA, hB, if_pos hs]
    rw [e3]
    unfold oneZ
    rw [getD_setZ (by simp; omega), getD_setZ (by omega)]
    simp only [List.length_set]
    by_cases h1 : c = a
    · subst h1
      rw [show (if c = c + d then A else if c = c then B else x.getD c 0) = B by rw [if_neg (by omega), if_pos rfl], if_pos (show c = c from rfl)]
      cases up <;> simp at hs <;> simp [show c < x.length by omega] <;> by_cases h3 : A < v <;> by_cases h4 : B < v <;> simp [h3, h4] <;> omega
    · by_cases h2 : c = a + d
      · subst h2
        rw [show (if a + d = a + d then A else if a + d = a then B else x.getD (a + d) 0) = A from if_pos rfl, if_neg h1, if_pos (show a + d = a + d from rfl)]
        cases up <;> simp at hs <;> simp [ha] <;> by_cases h3 : A < v <;> by_cases h4 : B < v <;> simp [h3, h4] <;> omega
      · rw [show (if c = a + d then A else if c = a then B else x.getD c 0) = x.getD c 0 by rw [if_neg h2, if_neg h1], if_neg h1, if_neg h2]
  · have e3 : cmpStep up d x a = x := by unfold cmpStep; rw [hA, hB, if_neg hs]
    rw [e3]
    by_cases h1 : c = a
    · subst h1
      rw [if_pos rfl, e1]
      cases up <;> simp at hs <;> by_cases h3 : A < v <;> by_cases h4 : B < v <;> simp [h3, h4] <;> omega
    · by_cases h2 : c = a + d
      · subst h2
        rw [if_neg h1, if_pos rfl, e2]
        cases up <;> simp at hs <;> by_cases h3 : A < v <;> by_cases h4 : B < v <;> simp [h3, h4] <;> omega
      · rw [if_neg h1, if_neg h2]

theorem net_ints {K : Nat} {st : Nat → Nat × Nat} (hst : ∀ s j, s < K → j ≤ s → st (tri s + j) = (s + 1, s + 1 - j)) {x : List Int} (hx : x.length = 2 ^ K) :
    (netTo (2 ^ K) (fun r => 2 ^ ((st r).2 - 1)) (fun r X a => cmpStep (decide (a / 2 ^ (st r).1 % 2 = 0)) (2 ^ ((st r).2 - 1)) X a) x (tri K)).length = 2 ^ K ∧
    ∀ i, i + 1 < 2 ^ K → (netTo (2 ^ K) (fun r => 2 ^ ((st r).2 - 1)) (fun r X a => cmpStep (decide (a / 2 ^ (st r).1 % 2 = 0)) (2 ^ ((st r).2 - 1)) X a) x (tri K)).getD i 0 ≤
      (netTo (2 ^ K) (fun r => 2 ^ ((st r).2 - 1)) (fun r X a => cmpStep (decide (a / 2 ^ (st r).1 % 2 = 0)) (2 ^ ((st r).2 - 1)) X a) x (tri K)).getD (i + 1) 0 := by
  have key := fun v => net_srt (T := List Int) (inv := fun X => X.length = 2 ^ K) (ζ := oneZ v) (S := 1) (K := K) (st := st)
    (step := fun r X a => cmpStep (decide (a / 2 ^ (st r).1 % 2 = 0)) (2 ^ ((st r).2 - 1)) X a) (X := x) hst hx
    (fun X _ a => by unfold oneZ; split <;> omega)
    (fun X hX a h => by unfold oneZ; rw [if_neg (by omega)])
    (fun r X a _ hX h1 _ => ⟨by simp only [cmpStep_len]; exact hX, fun c => cmp_step (Nat.two_pow_pos _) (by rw [hX]; exact h1) v c⟩)
  generalize netTo (2 ^ K) (fun r => 2 ^ ((st r).2 - 1)) (fun r X a => cmpStep (decide (a / 2 ^ (st r).1 % 2 = 0)) (2 ^ ((st r).2 - 1)) X a) x (tri K) = Y at key
  have hl : Y.length = 2 ^ K := (key 0).1
  refine ⟨hl, fun i hi => ?_⟩
  obtain ⟨L, hL⟩ := (key (Y.getD i 0)).2
  have e1 := hL i (by omega)
  have e2 := hL (i + 1) hi
  unfold oneZ at e1 e2
  rw [if_neg (by omega)] at e1
  by_cases h : Y.getD (i + 1) 0 < Y.getD i 0
  · rw [if_pos ⟨by omega, h⟩] at e2; omega
  · omega
end Go.Proofs.Ytldkjjnjdjfipaa.Bit
