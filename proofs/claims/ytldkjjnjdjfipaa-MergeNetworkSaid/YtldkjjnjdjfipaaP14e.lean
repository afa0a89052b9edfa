/- Plain: blocks that are sorted, split pair by pair as the bitonic network says, are sorted, block behind block. It states nothing of the program. -/
import Derived.Test.YtldkjjnjdjfipaaP14d
import Derived.Test.YtldkjjnjdjfipaaP13
namespace Go.Proofs.Ytldkjjnjdjfipaa
set_option linter.unusedVariables false
set_option linter.unusedSimpArgs false

/-- how many stand below v -/
def sml (sq : Bool) (v : Int) (x : List Rec) : Nat := x.countP fun r => decide (rk sq r < v)
theorem sml_le (sq : Bool) (v : Int) (x : List Rec) : sml sq v x ≤ x.length := List.countP_le_length
theorem sml_app (sq : Bool) (v : Int) (x y : List Rec) : sml sq v (x ++ y) = sml sq v x + sml sq v y := List.countP_append
theorem sml_cnt (sq : Bool) (v : Int) (x : List Rec) : sml sq v x + cnt sq v x 0 = x.length := by
  unfold sml cnt
  rw [List.drop_zero]
  have := List.length_eq_countP_add_countP (fun r => decide (rk sq r < v)) (l := x)
  rw [this]
  congr 1
  refine List.countP_congr fun r _ => ?_
  simp [Int.not_lt]
theorem sml_msort (sq : Bool) (v : Int) (x : List Rec) : sml sq v (msort sq x) = sml sq v x := by
  have h1 := sml_cnt sq v x
  have h2 := sml_cnt sq v (msort sq x)
  have h3 := cnt_msort0 sq v x
  rw [msort_len] at h2
  omega
theorem sml_take (sq : Bool) (v : Int) : ∀ (l : List Rec), Srt sq l → ∀ S, S ≤ l.length → sml sq v (l.take S) = min S (sml sq v l)
  | [], _, S, h => by have : S = 0 := by simpa using h
                      subst this; simp [sml]
  | x :: l, hs, 0, _ => by simp [sml]
  | x :: l, hs, S + 1, h => by
    have hc := List.pairwise_cons.1 hs
    have ih := sml_take sq v l hc.2 S (by simpa using h)
    have e1 : sml sq v ((x :: l).take (S + 1)) = sml sq v [x] + sml sq v (l.take S) := by rw [List.take_succ_cons]; exact sml_app sq v [x] _
    have e2 : sml sq v (x :: l) = sml sq v [x] + sml sq v l := sml_app sq v [x] l
    rw [e1, e2, ih]
    by_cases hx : rk sq x < v
    · have : sml sq v [x] = 1 := by simp [sml, hx]
      omega
    · have h1 : sml sq v [x] = 0 := by simp [sml, hx]
      have h2 : sml sq v l = 0 := by
        unfold sml
        rw [List.countP_eq_zero]
        intro y hy
        have := hc.1 y hy
        simp only [decide_eq_true_eq]
        omega
      omega
theorem sml_drop (sq : Bool) (v : Int) (l : List Rec) (hs : Srt sq l) (S : Nat) (h : S ≤ l.length) : sml sq v (l.drop S) = sml sq v l - S := by
  have h1 := sml_take sq v l hs S h
  have h2 : sml sq v l = sml sq v (l.take S) + sml sq v (l.drop S) := by rw [← sml_app, List.take_append_drop]
  omega
theorem srt_take {sq : Bool} {l : List Rec} (h : Srt sq l) (k : Nat) : Srt sq (l.take k) := List.Pairwise.sublist (List.take_sublist k l) h
theorem srt_drop {sq : Bool} {l : List Rec} (h : Srt sq l) (k : Nat) : Srt sq (l.drop k) := List.Pairwise.sublist (List.drop_sublist k l) h

/-- one pair of blocks, split -/
def blkStep (sq up : Bool) (d : Nat) (B : List (List Rec)) (a : Nat) : List (List Rec) :=
  let m := mgd sq (B.getD a []) (B.getD (a + d) [])
  let n := (B.getD a []).length
  (B.set a (if up then m.take n else m.drop n)).set (a + d) (if up then m.drop n else m.take n)

def BInv (sq : Bool) (n S : Nat) (B : List (List Rec)) : Prop := B.length = n ∧ ∀ x ∈ B, x.length = S ∧ Srt sq x
theorem getD_mem {B : List (List Rec)} {a : Nat} (h : a < B.length) : B.getD a [] ∈ B := by
  rw [List.getD_eq_getElem?_getD, List.getElem?_eq_getElem h]; exact List.getElem_mem _
theorem getD_set1 {B : List (List Rec)} {a c : Nat} {x : List Rec} (h : a < B.length) : (B.set a x).getD c [] = if c = a then x else B.getD c [] := by
  rw [List.getD_eq_getElem?_getD, List.getElem?_set]
  by_cases hc : c = a
  · subst hc; simp [h]
  · rw [if_neg (fun e => hc e.symm), if_neg hc, List.getD_eq_getElem?_getD]

theorem blk_step {sq up : Bool} {n S d : Nat} {B : List (List Rec)} {a : Nat} (hB : BInv sq n S B) (hd : 0 < d) (ha : a + d < n) :
    BInv sq n S (blkStep sq up d B a) ∧ ∀ v c, sml sq v ((blkStep sq up d B a).getD c []) = Bit.pairZ S d up a (fun i => sml sq v (B.getD i [])) c := by
  obtain ⟨hl, hall⟩ := hB
  obtain ⟨la, sa⟩ := hall _ (getD_mem (B := B) (a := a) (by omega))
  obtain ⟨lb, sb⟩ := hall _ (getD_mem (B := B) (a := a + d) (by omega))
  have hm := mgd_len sq (B.getD a []) (B.getD (a + d) [])
  have hs : Srt sq (mgd sq (B.getD a []) (B.getD (a + d) [])) := srt_msort sq _
  have hc : ∀ v, sml sq v (mgd sq (B.getD a []) (B.getD (a + d) [])) = sml sq v (B.getD a []) + sml sq v (B.getD (a + d) []) := fun v => by
    unfold mgd; rw [sml_msort]; simp [sml_app]
  unfold blkStep
  simp only []
  generalize hM : mgd sq (B.getD a []) (B.getD (a + d) []) = m at *
  refine ⟨⟨by simp [hl], fun x hx => ?_⟩, fun v c => ?_⟩
  · rcases List.mem_or_eq_of_mem_set hx with hx | rfl
    · rcases List.mem_or_eq_of_mem_set hx with hx | rfl
      · exact hall x hx
      · cases up <;> simp only [Bool.false_eq_true, if_false, if_true]
        · exact ⟨by rw [List.length_drop]; omega, srt_drop hs _⟩
        · exact ⟨by rw [List.length_take]; omega, srt_take hs _⟩
    · cases up <;> simp only [Bool.false_eq_true, if_false, if_true]
      · exact ⟨by rw [List.length_take]; omega, srt_take hs _⟩
      · exact ⟨by rw [List.length_drop]; omega, srt_drop hs _⟩
  · rw [getD_set1 (by simp; omega), getD_set1 (by omega)]
    have t1 := sml_take sq v m hs (B.getD a []).length (by omega)
    have t2 := sml_drop sq v m hs (B.getD a []).length (by omega)
    rw [hc v, la] at t1 t2
    unfold Bit.pairZ
    rw [la]
    by_cases h1 : c = a
    · subst h1
      rw [if_neg (by omega), if_pos rfl, if_pos rfl]
      cases up <;> simp [t1, t2]
    · by_cases h2 : c = a + d
      · subst h2
        rw [if_pos rfl, if_neg h1, if_pos rfl]
        cases up <;> simp [t1, t2]
      · rw [if_neg h2, if_neg h1, if_neg h1, if_neg h2]

theorem srt_flat {sq : Bool} {n S : Nat} {B : List (List Rec)} (hB : BInv sq n S B) (h : ∀ v, ∃ L, ∀ i, i < n → sml sq v (B.getD i []) = min S (L - i * S)) : Srt sq B.flatten := by
  unfold Srt
  rw [List.pairwise_flatten]
  refine ⟨fun l hl => (hB.2 l hl).2, ?_⟩
  rw [List.pairwise_iff_getElem]
  intro i j hi hj hij x hx y hy
  by_cases hlt : rk sq y < rk sq x
  · exfalso
    obtain ⟨L, hL⟩ := h (rk sq x)
    have e1 := hL i (by rw [← hB.1]; exact hi)
    have e2 := hL j (by rw [← hB.1]; exact hj)
    rw [List.getD_eq_getElem?_getD, List.getElem?_eq_getElem hi, Option.getD_some] at e1
    rw [List.getD_eq_getElem?_getD, List.getElem?_eq_getElem hj, Option.getD_some] at e2
    have hy1 : 0 < sml sq (rk sq x) B[j] := List.countP_pos_iff.2 ⟨y, hy, by simpa using hlt⟩
    have hle : (i + 1) * S ≤ j * S := Nat.mul_le_mul_right S (by omega)
    rw [Nat.succ_mul] at hle
    have hS := (hB.2 _ (List.getElem_mem hi)).1
    have hfull : sml sq (rk sq x) B[i] = B[i].length := by omega
    have := List.countP_eq_length.1 hfull x hx
    simp at this
  · omega

/-- the network on blocks -/
theorem net_blocks {sq : Bool} {K S : Nat} {st : Nat → Nat × Nat} (hst : ∀ s j, s < K → j ≤ s → st (Bit.tri s + j) = (s + 1, s + 1 - j)) {B : List (List Rec)} (hB : BInv sq (2 ^ K) S B) :
    BInv sq (2 ^ K) S (Bit.netTo (2 ^ K) (fun r => 2 ^ ((st r).2 - 1)) (fun r X a => blkStep sq (decide (a / 2 ^ (st r).1 % 2 = 0)) (2 ^ ((st r).2 - 1)) X a) B (Bit.tri K)) ∧
    Srt sq (Bit.netTo (2 ^ K) (fun r => 2 ^ ((st r).2 - 1)) (fun r X a => blkStep sq (decide (a / 2 ^ (st r).1 % 2 = 0)) (2 ^ ((st r).2 - 1)) X a) B (Bit.tri K)).flatten := by
  have key := fun v => Bit.net_srt (T := List (List Rec)) (inv := BInv sq (2 ^ K) S) (ζ := fun X i => sml sq v (X.getD i [])) (S := S) (K := K) (st := st)
    (step := fun r X a => blkStep sq (decide (a / 2 ^ (st r).1 % 2 = 0)) (2 ^ ((st r).2 - 1)) X a) (X := B) hst hB
    (fun X hX a => by
      by_cases h : a < X.length
      · have := (hX.2 _ (getD_mem h)).1; have := sml_le sq v (X.getD a []); omega
      · simp [List.getD_eq_getElem?_getD, List.getElem?_eq_none (by omega : X.length ≤ a), sml])
    (fun X hX a h => by simp [List.getD_eq_getElem?_getD, List.getElem?_eq_none (by rw [hX.1]; exact h : X.length ≤ a), sml])
    (fun r X a _ hX h1 _ => by
      have := blk_step (up := decide (a / 2 ^ (st r).1 % 2 = 0)) hX (Nat.two_pow_pos _) h1
      exact ⟨this.1, this.2 v⟩)
  exact ⟨(key 0).1, srt_flat (key 0).1 (fun v => (key v).2)⟩
end Go.Proofs.Ytldkjjnjdjfipaa
