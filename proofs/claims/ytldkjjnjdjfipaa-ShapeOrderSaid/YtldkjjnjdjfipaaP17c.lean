/- P17c: what a task reads and writes, and which task makes a spot. Plain. -/
import Derived.Test.YtldkjjnjdjfipaaP17b
import Derived.Test.YtldkjjnjdjfipaaP17e
namespace Go.Proofs.Ytldkjjnjdjfipaa
open Go Go.RowKit
set_option linter.unusedVariables false
set_option linter.unusedSimpArgs false

deriving instance DecidableEq for Spot
def readsT (w : Nat) (t : Task) : List Spot :=
  if t.t0 = 1 then [⟨0, 0, t.t2⟩]
  else if t.t0 = 3 then [behind 2 1 (t.t1 - 1) t.t2, behind 2 1 (t.t1 - 1) t.t3]
  else if t.t0 = 4 then (if 0 < t.t2 then [behind 2 1 ((rnd ((w : Nat) : Int) : Nat) : Int) t.t2, ⟨4, 0, t.t2 - 1⟩] else [behind 2 1 ((rnd ((w : Nat) : Int) : Nat) : Int) t.t2])
  else if t.t0 = 5 then [behind 5 3 (t.t1 - 1) t.t2, behind 5 3 (t.t1 - 1) t.t3]
  else []
def blkS (a b : Int) (i : Nat) : List Spot := (List.range i).map fun j => ⟨1, 0, a * b + ((j : Nat) : Int)⟩
def writesT (a : Int) (t : Task) : List Spot :=
  if t.t0 = 1 then blkS a t.t2 a.toNat
  else if t.t0 = 2 then [⟨1, 0, t.t2⟩]
  else if t.t0 = 3 then [⟨2, t.t1, t.t2⟩, ⟨2, t.t1, t.t3⟩]
  else if t.t0 = 4 then [⟨3, 0, t.t2⟩, ⟨4, 0, t.t2⟩]
  else [⟨5, t.t1, t.t2⟩, ⟨5, t.t1, t.t3⟩]
def readsP (p : Par) (i : Int) : List Spot := if (tkAt p i).2 then readsT (sl p) (tkAt p i).1 else []
def writesP (p : Par) (i : Int) : List Spot := if (tkAt p i).2 then writesT p.n1 (tkAt p i).1 else []
/-- the number of a pair by round and place -/
def prd (w : Nat) (r s : Int) : Int := (r - 1) * ((w / 2 : Nat) : Int) + ((s.toNat / (2 * far ((w : Nat) : Int) (r - 1)) * far ((w : Nat) : Int) (r - 1) : Nat) : Int) + ((s.toNat % far ((w : Nat) : Int) (r - 1) : Nat) : Int)
def makesP (p : Par) (s : Spot) : Int :=
  if s.s2 < 0 ∨ ((sl p : Nat) : Int) ≤ s.s2 then -1
  else if s.s0 = 1 ∧ s.s1 = 0 ∧ s.s2 < (ofP p).q0 * bk p then s.s2 / (ofP p).q0
  else if s.s0 = 1 ∧ s.s1 = 0 then bk p + s.s2 - (ofP p).q0 * bk p
  else if s.s0 = 2 ∧ 1 ≤ s.s1 ∧ s.s1 ≤ ((rnd ((sl p : Nat) : Int) : Nat) : Int) then (ofP p).q6 + prd (sl p) s.s1 s.s2
  else if (s.s0 = 3 ∨ s.s0 = 4) ∧ s.s1 = 0 then (ofP p).q7 + s.s2
  else if s.s0 = 5 ∧ 1 ≤ s.s1 ∧ s.s1 ≤ ((rnd ((sl p : Nat) : Int) : Nat) : Int) then (ofP p).q8 + prd (sl p) s.s1 s.s2
  else -1
/-- the shapes of small trials -/
def shp (a b : Nat) : Par := ⟨b, a, 1, 1⟩
def shps : List (Nat × Nat) := [(1, 1), (1, 2), (1, 3), (1, 4), (1, 5), (1, 6), (1, 7), (2, 1), (2, 2), (2, 3), (3, 1), (3, 2), (4, 1)]
def box : List Spot := [1, 2, 3, 4, 5].flatMap fun (a : Int) => [0, 1, 2, 3, 4, 5, 6].flatMap fun (b : Int) => [0, 1, 2, 3, 4, 5, 6, 7].map fun (c : Int) => ⟨a, b, c⟩
theorem chk1 : ∀ x ∈ shps, ∀ k ∈ List.range (cnt (shp x.1 x.2)), ∀ s ∈ writesT ((x.1 : Nat) : Int) (tkN (shp x.1 x.2) k), makesP (shp x.1 x.2) s = ((k : Nat) : Int) := by decide +kernel
theorem chk2 : ∀ x ∈ shps, ∀ s ∈ box, makesP (shp x.1 x.2) s = -1 ∨ (makesP (shp x.1 x.2) s < ((cnt (shp x.1 x.2) : Nat) : Int) ∧ 0 ≤ makesP (shp x.1 x.2) s ∧ s ∈ writesT ((x.1 : Nat) : Int) (tkN (shp x.1 x.2) (makesP (shp x.1 x.2) s).toNat)) := by decide +kernel
theorem chk3 : ∀ x ∈ shps, ok (shp x.1 x.2) = true ∧ cdv (shp x.1 x.2).n0 (shp x.1 x.2).n2 = ((x.2 : Nat) : Int) ∧ sl (shp x.1 x.2) ≤ 8 ∧ rnd ((sl (shp x.1 x.2) : Nat) : Int) ≤ 6 := by decide +kernel
theorem chk4' : ∀ a ∈ List.range 5, ∀ b ∈ List.range 8, 1 ≤ a → 1 ≤ b → a * b ≤ 7 → (a, b) ∈ shps := by decide +kernel
theorem chk4 (a : Nat) (ha : a < 5) (b : Nat) (hb : b < 8) : 1 ≤ a → 1 ≤ b → a * b ≤ 7 → (a, b) ∈ shps := chk4' a (List.mem_range.2 ha) b (List.mem_range.2 hb)
theorem few_shp {p : Par} (h : ok (few p) = true) : ∃ x ∈ shps, (few p).n1 = ((x.1 : Nat) : Int) ∧ cdv (few p).n0 (few p).n2 = ((x.2 : Nat) : Int) := by
  have hp : ok p = true := by
    cases h1 : ok p
    · rw [few_no h1, h1] at h; cases h
    · rfl
  have h2 := (few_small hp).2
  have h3 := ok_bd h
  have h4 := ok_cdv h
  generalize (few p).n1 = a at *
  generalize cdv (few p).n0 (few p).n2 = b at *
  obtain ⟨m, rfl⟩ := Int.eq_ofNat_of_zero_le (show 0 ≤ a by omega)
  obtain ⟨k, rfl⟩ := Int.eq_ofNat_of_zero_le (show 0 ≤ b by omega)
  have h5 : m * k ≤ 7 := by
    have : ((m * k : Nat) : Int) ≤ 7 := by rw [Int.natCast_mul]; exact h2
    omega
  have h6 : 1 * k ≤ m * k := Nat.mul_le_mul_right k (by omega)
  exact ⟨(m, k), chk4 m (by omega) k (by omega) (by omega) (by omega) h5, rfl, rfl⟩
theorem few_same {p : Par} (h : ok (few p) = true) : ∃ x ∈ shps, (few p).n1 = ((x.1 : Nat) : Int) ∧ bk (few p) = bk (shp x.1 x.2) ∧ sl (few p) = sl (shp x.1 x.2) ∧ ofP (few p) = ofP (shp x.1 x.2) ∧ cnt (few p) = cnt (shp x.1 x.2) := by
  obtain ⟨x, hx, h1, h2⟩ := few_shp h
  obtain ⟨c1, c2, -, -⟩ := chk3 x hx
  obtain ⟨e1, e2, e3, e4⟩ := same_all (p := shp x.1 x.2) (q := few p) c1 h (by rw [h2, c2]) h1
  exact ⟨x, hx, h1, e1, e2, e4, same_cnt (p := shp x.1 x.2) (q := few p) c1 h (by rw [h2, c2]) h1⟩
theorem makes_same {p q : Par} (e1 : bk p = bk q) (e2 : sl p = sl q) (e3 : ofP p = ofP q) (s : Spot) : makesP p s = makesP q s := by unfold makesP; rw [e1, e2, e3]
theorem tkN_same {p q : Par} (e1 : bk p = bk q) (e2 : sl p = sl q) (e3 : ofP p = ofP q) (k : Nat) : tkN p k = tkN q k := by unfold tkN tkAt; rw [e1, e2, e3]
theorem cnt_ok {p : Par} {k : Nat} (h : k < cnt p) : ok p = true := by
  cases h1 : ok p
  · rw [cnt_0 h1] at h; omega
  · rfl
theorem mk1 {p : Par} {k : Nat} (hk : k < cnt (few p)) {s : Spot} (hs : s ∈ writesT (few p).n1 (tkN (few p) k)) : makesP (few p) s = ((k : Nat) : Int) := by
  obtain ⟨x, hx, e0, e1, e2, e3, e4⟩ := few_same (cnt_ok hk)
  rw [makes_same e1 e2 e3]
  rw [e0, tkN_same e1 e2 e3] at hs
  exact chk1 x hx k (List.mem_range.2 (by omega)) s hs
theorem mem_box {s : Spot} (h0 : 1 ≤ s.s0) (h1 : s.s0 ≤ 5) (h2 : 0 ≤ s.s1) (h3 : s.s1 ≤ 6) (h4 : 0 ≤ s.s2) (h5 : s.s2 ≤ 7) : s ∈ box := by
  obtain ⟨a, b, c⟩ := s
  unfold box
  refine List.mem_flatMap.2 ⟨a, ?_, List.mem_flatMap.2 ⟨b, ?_, List.mem_map.2 ⟨c, ?_, rfl⟩⟩⟩
  · simp; simp at h0 h1; omega
  · simp; simp at h2 h3; omega
  · simp; simp at h4 h5; omega
theorem makes_box {p : Par} {s : Spot} (h8 : sl p ≤ 8) (h6 : rnd ((sl p : Nat) : Int) ≤ 6) (h : makesP p s ≠ -1) : s ∈ box := by
  unfold makesP at h
  split at h
  · exact absurd rfl h
  · split at h
    · exact mem_box (by omega) (by omega) (by omega) (by omega) (by omega) (by omega)
    · split at h
      · exact mem_box (by omega) (by omega) (by omega) (by omega) (by omega) (by omega)
      · split at h
        · exact mem_box (by omega) (by omega) (by omega) (by omega) (by omega) (by omega)
        · split at h
          · exact mem_box (by omega) (by omega) (by omega) (by omega) (by omega) (by omega)
          · split at h
            · exact mem_box (by omega) (by omega) (by omega) (by omega) (by omega) (by omega)
            · exact absurd rfl h
theorem makes_ok {p : Par} {s : Spot} (h : makesP p s ≠ -1) : ok p = true := by
  cases h1 : ok p
  · exfalso
    unfold makesP at h
    rw [sl_no h1, if_pos (by omega)] at h
    exact h rfl
  · rfl
theorem mk2 {p : Par} {s : Spot} (h : makesP (few p) s ≠ -1) : makesP (few p) s < ((cnt (few p) : Nat) : Int) ∧ 0 ≤ makesP (few p) s ∧ s ∈ writesT (few p).n1 (tkN (few p) (makesP (few p) s).toNat) := by
  obtain ⟨x, hx, e0, e1, e2, e3, e4⟩ := few_same (makes_ok h)
  rw [makes_same e1 e2 e3] at h ⊢
  obtain ⟨-, -, c3, c4⟩ := chk3 x hx
  rw [e4, e0, tkN_same e1 e2 e3]
  rcases chk2 x hx s (makes_box c3 c4 h) with h1 | h1
  · exact absurd h1 h
  · exact h1
/-- what is wanted of a small trial's shape -/
structure Small (p : Par) : Prop where
  h8 : sl p ≤ 8
  ref : tasksL p = refT p
  len : cnt p ≤ 128
  mk1 : ∀ k, k < cnt p → ∀ s ∈ writesT p.n1 (tkN p k), makesP p s = ((k : Nat) : Int)
  mk2 : ∀ s, makesP p s ≠ -1 → makesP p s < ((cnt p : Nat) : Int) ∧ 0 ≤ makesP p s ∧ s ∈ writesT p.n1 (tkN p (makesP p s).toNat)
theorem small_8 (p : Par) : sl (few p) ≤ 8 := by
  cases h : ok (few p)
  · rw [sl_no h]; omega
  · obtain ⟨x, hx, e0, e1, e2, e3, e4⟩ := few_same h
    rw [e2]
    exact (chk3 x hx).2.2.1
theorem smallF (p : Par) : Small (few p) := ⟨small_8 p, few_tasks p, cnt_le p, fun k hk s hs => mk1 hk hs, fun s h => mk2 h⟩
theorem Small.rlen {p : Par} (h : Small p) : (refT p).length = cnt p := by rw [← h.ref, tasks_len]
theorem Small.at {p : Par} (h : Small p) {i : Nat} (hi : i < cnt p) : (refT p).getD i default = tkN p i := by
  rw [← h.ref]
  unfold tasksL
  rw [List.getD_eq_getElem?_getD, List.getElem?_map, List.getElem?_range hi]
  rfl
theorem tk_some {p : Par} {i : Int} : (tkAt p i).2 = decide (0 ≤ i ∧ i < ((cnt p : Nat) : Int)) := by
  have hc := cnt_eq p
  unfold tkAt
  split
  · exact (decide_eq_false (by omega)).symm
  · have : decide (0 ≤ i ∧ i < ((cnt p : Nat) : Int)) = true := decide_eq_true (by omega)
    rw [this]
    repeat' split
    all_goals rfl
end Go.Proofs.Ytldkjjnjdjfipaa
