/- Plain laws of the sort by odd and even pairs: as many rounds as there are things sort them. -/
import Derived.Test.YtldkjjnjdjfipaaWMrg6
import Derived.Test.YtldkjjnjdjfipaaP09
namespace Go.Proofs.Ytldkjjnjdjfipaa
open Go Go.RowKit
set_option linter.unusedVariables false
set_option linter.unusedSimpArgs false

/-- where a record stands, as a number -/
def rk (sq : Bool) (r : Rec) : Int := if r.dead then 340282366920938463463374607431768211456 else r.key.toInt * 18446744073709551616 + (if sq then r.seq.toInt else 0)
theorem i64_bd (x : Int64) : -9223372036854775808 ≤ x.toInt ∧ x.toInt < 9223372036854775808 := ⟨Int64.le_toInt x, Int64.toInt_lt x⟩
theorem ahd_rk (sq : Bool) (a b : Rec) : ahd sq a b = decide (rk sq a < rk sq b) := by
  have h1 := i64_bd a.key
  have h2 := i64_bd b.key
  have h3 := i64_bd a.seq
  have h4 := i64_bd b.seq
  rw [Bool.eq_iff_iff, decide_eq_true_eq]
  unfold ahd rk
  cases sq with
  | true =>
    simp only [if_true]
    rw [before_iff]
    cases a.dead <;> cases b.dead <;> simp <;> omega
  | false =>
    simp only [Bool.false_eq_true, if_false]
    rw [ahead_iff]
    cases a.dead <;> cases b.dead <;> simp <;> omega

/-- how many from place q on are at least k -/
def cnt (sq : Bool) (k : Int) (x : List Rec) (q : Nat) : Nat := (x.drop q).countP fun r => decide (k ≤ rk sq r)
def one (sq : Bool) (k : Int) (r : Rec) : Nat := if k ≤ rk sq r then 1 else 0
theorem cnt_at (sq : Bool) (k : Int) (x : List Rec) (q : Nat) (h : q < x.length) : cnt sq k x q = one sq k (x.getD q default) + cnt sq k x (q + 1) := by
  unfold cnt one
  rw [List.drop_eq_getElem_cons h, List.countP_cons]
  simp [List.getD_eq_getElem?_getD, h]
  omega
theorem cnt_le (sq : Bool) (k : Int) (x : List Rec) (q : Nat) : cnt sq k x q ≤ x.length - q := by
  unfold cnt
  have := List.countP_le_length (p := fun r => decide (k ≤ rk sq r)) (l := x.drop q)
  rw [List.length_drop] at this
  exact this
theorem one_le (sq : Bool) (k : Int) (r : Rec) : one sq k r ≤ 1 := by unfold one; split <;> omega
theorem swp_getD (sq : Bool) (i : Nat) (x : List Rec) (h : i + 1 < x.length) (j : Nat) : (swp sq i x).getD j default =
    if ahd sq (x.getD (i + 1) default) (x.getD i default) then (if j = i then x.getD (i + 1) default else if j = i + 1 then x.getD i default else x.getD j default) else x.getD j default := by
  unfold swp
  split
  · simp only [List.getD_eq_getElem?_getD, List.getElem?_set, List.length_set]
    by_cases h1 : i + 1 = j
    · subst h1
      simp [h]
    · by_cases h2 : i = j
      · subst h2
        simp [h1]
        rw [if_pos (by omega)]; rfl
      · rw [if_neg h1, if_neg h2, if_neg (fun e => h2 e.symm), if_neg (fun e => h1 e.symm)]
  · rfl
theorem cnt_far (sq : Bool) (k : Int) (i : Nat) (x y : List Rec) (hl : x.length = y.length) : ∀ (n q : Nat), x.length - q = n → (∀ j, q ≤ j → x.getD j default = y.getD j default) → cnt sq k x q = cnt sq k y q
  | 0, q, hn, h => by
    unfold cnt
    rw [List.drop_eq_nil_of_le (by omega), List.drop_eq_nil_of_le (by omega)]
  | n + 1, q, hn, h => by
    rw [cnt_at sq k x q (by omega), cnt_at sq k y q (by omega), h q (Nat.le_refl _), cnt_far sq k i x y hl n (q + 1) (by omega) (fun j hj => h j (by omega))]
theorem cnt_swp (sq : Bool) (k : Int) (i : Nat) (x : List Rec) (h : i + 1 < x.length) (q : Nat) : cnt sq k (swp sq i x) q = if q = i + 1 then min (cnt sq k x i) (cnt sq k x (i + 2) + 1) else cnt sq k x q := by
  have hL := swp_len sq i x
  have far : cnt sq k (swp sq i x) (i + 2) = cnt sq k x (i + 2) := cnt_far sq k i _ _ hL _ _ rfl fun j hj => by
    rw [swp_getD sq i x h]
    split
    · rw [if_neg (by omega), if_neg (by omega)]
    · rfl
  have a0 := cnt_at sq k x i (by omega)
  have a1 := cnt_at sq k x (i + 1) h
  have b0 := cnt_at sq k (swp sq i x) i (by omega)
  have b1 := cnt_at sq k (swp sq i x) (i + 1) (by omega)
  have g0 := swp_getD sq i x h i
  have g1 := swp_getD sq i x h (i + 1)
  rw [ahd_rk] at g0 g1
  rw [show i + 1 + 1 = i + 2 from rfl] at a1 b1
  have hone : one sq k ((swp sq i x).getD i default) + one sq k ((swp sq i x).getD (i + 1) default) = one sq k (x.getD i default) + one sq k (x.getD (i + 1) default) ∧
      ((one sq k ((swp sq i x).getD (i + 1) default) = one sq k (x.getD i default) ∧ one sq k (x.getD (i + 1) default) ≤ one sq k (x.getD i default)) ∨
       (one sq k ((swp sq i x).getD (i + 1) default) = one sq k (x.getD (i + 1) default) ∧ one sq k (x.getD i default) ≤ one sq k (x.getD (i + 1) default))) := by
    rw [g0, g1]
    by_cases hr : rk sq (x.getD (i + 1) default) < rk sq (x.getD i default)
    · simp only [hr, decide_true, if_true, if_neg (show ¬ i + 1 = i by omega)]
      refine ⟨by omega, .inl ⟨trivial, ?_⟩⟩
      unfold one
      split <;> split <;> omega
    · simp only [hr, decide_false, Bool.false_eq_true, if_false]
      refine ⟨trivial, .inr ⟨trivial, ?_⟩⟩
      unfold one
      split <;> split <;> omega
  have o1 := one_le sq k (x.getD i default)
  have o2 := one_le sq k (x.getD (i + 1) default)
  have same : cnt sq k (swp sq i x) i = cnt sq k x i := by omega
  split
  · subst_vars; rw [Nat.min_def]; split <;> omega
  · rename_i hq
    rcases Nat.lt_or_ge i q with hlt | hge
    · exact cnt_far sq k i _ _ hL _ _ rfl fun j hj => by
        rw [swp_getD sq i x h]
        split
        · rw [if_neg (by omega), if_neg (by omega)]
        · rfl
    · -- from q up to i nothing turns
      have down : ∀ d, d ≤ i → cnt sq k (swp sq i x) (i - d) = cnt sq k x (i - d) := by
        intro d
        induction d with
        | zero => exact fun _ => same
        | succ d ih =>
          intro hd
          rw [cnt_at sq k _ (i - (d + 1)) (by omega), cnt_at sq k x (i - (d + 1)) (by omega), swp_getD sq i x h, if_neg (by omega : ¬ i - (d + 1) = i), if_neg (by omega : ¬ i - (d + 1) = i + 1), show i - (d + 1) + 1 = i - d by omega, ih (by omega)]
          split <;> rfl
      have := down (i - q) (by omega)
      rwa [show i - (i - q) = q by omega] at this
theorem cnt_row (sq : Bool) (k : Int) (r n : Nat) : ∀ (i : Nat) (x : List Rec), x.length = n → ∀ q, cnt sq k (srow sq r n i x) q = if i + 1 ≤ q ∧ q < n ∧ (q - 1) % 2 = r % 2 then min (cnt sq k x (q - 1)) (cnt sq k x (q + 1) + 1) else cnt sq k x q := by
  intro i x
  induction i, x using srow.induct (sq := sq) (r := r) (n := n) with
  | case2 i x h =>
    intro hx q
    rw [srow_end h, if_neg (by omega)]
  | case1 i x h ih =>
    intro hx q
    simp only [dite_eq_ite] at ih
    rw [srow_next h]
    by_cases hp : i % 2 = r % 2
    · rw [if_pos hp] at ih ⊢
      rw [ih (by rw [swp_len]; exact hx) q]
      by_cases h1 : i + 1 + 1 ≤ q ∧ q < n ∧ (q - 1) % 2 = r % 2
      · rw [if_pos h1, if_pos ⟨by omega, h1.2.1, h1.2.2⟩, cnt_swp sq k i x (by omega), cnt_swp sq k i x (by omega), if_neg (by omega), if_neg (by omega)]
      · rw [if_neg h1, cnt_swp sq k i x (by omega)]
        by_cases h2 : q = i + 1
        · subst h2
          rw [if_pos rfl, if_pos ⟨Nat.le_refl _, by omega, by simpa using hp⟩]
          rfl
        · rw [if_neg h2, if_neg (by omega)]
    · rw [if_neg hp] at ih ⊢
      rw [ih hx q]
      by_cases h1 : i + 1 + 1 ≤ q ∧ q < n ∧ (q - 1) % 2 = r % 2
      · rw [if_pos h1, if_pos ⟨by omega, h1.2.1, h1.2.2⟩]
      · rw [if_neg h1, if_neg (fun h2 => h1 ⟨by have : q ≠ i + 1 := fun e => hp (by have := h2.2.2; rw [e] at this; simpa using this); omega, h2.2⟩)]
/-- how far a round has come -/
def low (n m : Nat) (t q : Nat) : Int := min (min (m : Int) ((n : Int) - q)) (((t : Int) + (((m : Int) - 1) / 2 * 2) - q) / 2 + 1)
theorem cnt_rows (sq : Bool) (k : Int) (n m : Nat) : ∀ (t : Nat) (x : List Rec), t ≤ n → x.length = n → cnt sq k x 0 = m → (∀ q, q ≤ n → low n m t q ≤ (cnt sq k x q : Int)) → ∀ q, q ≤ n → low n m n q ≤ (cnt sq k (srows sq n t x) q : Int) := by
  intro t x
  induction t, x using srows.induct (sq := sq) (n := n) with
  | case2 t x h =>
    intro ht hx hm hl q hq
    rw [srows_done (.inl h)]
    have : t = n := by omega
    subst this
    exact hl q hq
  | case1 t x h ih =>
    intro ht hx hm hl q hq
    rw [srows_next h]
    refine ih (by omega) (by rw [srow_len]; exact hx) ?_ ?_ q hq
    · rw [cnt_row sq k t n 0 x hx, if_neg (by omega)]; exact hm
    · intro q hq
      rw [cnt_row sq k t n 0 x hx]
      have h0 := hl q hq
      unfold low at *
      split
      · rename_i hc
        have h1 := hl (q - 1) (by omega)
        have h2 := hl (q + 1) (by omega)
        omega
      · rename_i hc
        by_cases hqn : q = n
        · subst hqn; omega
        · by_cases hq0 : q = 0
          · subst hq0; omega
          · have : ¬ (q - 1) % 2 = t % 2 := fun e => hc ⟨by omega, by omega, e⟩
            omega
theorem cnt_mono (sq : Bool) (k : Int) (x : List Rec) : ∀ q, cnt sq k x 0 ≤ cnt sq k x q + q := by
  intro q
  induction q with
  | zero => omega
  | succ q ih =>
    rcases Nat.lt_or_ge q x.length with h | h
    · have h1 := cnt_at sq k x q h
      have := one_le sq k (x.getD q default)
      omega
    · have h1 := cnt_le sq k x q
      omega
theorem cnt_msort (sq : Bool) (k : Int) (l : List Rec) (q : Nat) (hq : q ≤ l.length) : min (cnt sq k l 0 : Int) ((l.length : Int) - q) ≤ (cnt sq k (msort sq l) q : Int) := by
  have h := cnt_rows sq k l.length (cnt sq k l 0) 0 l (Nat.zero_le _) rfl rfl (fun q hq => by
    have h1 := cnt_mono sq k l q
    unfold low
    omega) q hq
  unfold low at h
  unfold msort
  omega
theorem cnt_msort0 (sq : Bool) (k : Int) (l : List Rec) : cnt sq k (msort sq l) 0 = cnt sq k l 0 := by
  have go : ∀ (t : Nat) (x : List Rec), x.length = l.length → cnt sq k (srows sq l.length t x) 0 = cnt sq k x 0 := by
    intro t x
    induction t, x using srows.induct (sq := sq) (n := l.length) with
    | case2 t x h => intro _; rw [srows_done (.inl h)]
    | case1 t x h ih =>
      intro hx
      rw [srows_next h, ih (by rw [srow_len]; exact hx), cnt_row sq k t _ 0 x hx, if_neg (by omega)]
  exact go 0 l rfl
/-- **The sort by pairs sorts.** -/
theorem msort_sorted (sq : Bool) (l : List Rec) (i j : Nat) (hij : i < j) (hj : j < l.length) : ahd sq ((msort sq l).getD j default) ((msort sq l).getD i default) = false := by
  rw [ahd_rk, decide_eq_false_iff_not]
  intro hlt
  have hL := msort_len sq l
  have h1 := cnt_msort sq (rk sq ((msort sq l).getD i default)) l (i + 1) (by omega)
  have h2 := cnt_at sq (rk sq ((msort sq l).getD i default)) (msort sq l) i (by omega)
  have h3 := cnt_msort0 sq (rk sq ((msort sq l).getD i default)) l
  have h4 : one sq (rk sq ((msort sq l).getD i default)) ((msort sq l).getD i default) = 1 := by unfold one; rw [if_pos (Int.le_refl _)]
  have up : ∀ q, cnt sq (rk sq ((msort sq l).getD i default)) (msort sq l) (q + 1) ≤ cnt sq (rk sq ((msort sq l).getD i default)) (msort sq l) q := fun q => by
    rcases Nat.lt_or_ge q (msort sq l).length with h | h
    · have := cnt_at sq (rk sq ((msort sq l).getD i default)) (msort sq l) q h; omega
    · have := cnt_le sq (rk sq ((msort sq l).getD i default)) (msort sq l) (q + 1); omega
  have up0 : ∀ q, cnt sq (rk sq ((msort sq l).getD i default)) (msort sq l) q ≤ cnt sq (rk sq ((msort sq l).getD i default)) (msort sq l) 0 := fun q => by
    induction q with
    | zero => omega
    | succ q ih => have := up q; omega
  have h5 := up0 i
  -- one from i + 1 on is too low
  have h6 : cnt sq (rk sq ((msort sq l).getD i default)) (msort sq l) (i + 1) < l.length - (i + 1) := by
    have go : ∀ d, d ≤ j - (i + 1) → cnt sq (rk sq ((msort sq l).getD i default)) (msort sq l) (j - d) < l.length - (j - d) := by
      intro d
      induction d with
      | zero =>
        intro _
        have a := cnt_at sq (rk sq ((msort sq l).getD i default)) (msort sq l) j (by omega)
        have b : one sq (rk sq ((msort sq l).getD i default)) ((msort sq l).getD j default) = 0 := by unfold one; rw [if_neg (by omega)]
        have c := cnt_le sq (rk sq ((msort sq l).getD i default)) (msort sq l) (j + 1)
        simp only [Nat.sub_zero]
        omega
      | succ d ih =>
        intro hd
        have a := cnt_at sq (rk sq ((msort sq l).getD i default)) (msort sq l) (j - (d + 1)) (by omega)
        have b := one_le sq (rk sq ((msort sq l).getD i default)) ((msort sq l).getD (j - (d + 1)) default)
        have c := ih (by omega)
        rw [show j - (d + 1) + 1 = j - d by omega] at a
        omega
    have := go (j - (i + 1)) (Nat.le_refl _)
    rwa [show j - (j - (i + 1)) = i + 1 by omega] at this
  omega
end Go.Proofs.Ytldkjjnjdjfipaa
