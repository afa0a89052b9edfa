/- P14f: blocks of records through the network, word for word as law 18 walks. Plain. -/
import Derived.Test.YtldkjjnjdjfipaaP14e
import Derived.Test.YtldkjjnjdjfipaaWNetI
import Derived.Test.YtldkjjnjdjfipaaWMrg5
import Derived.Test.YtldkjjnjdjfipaaFam
namespace Go.Proofs.Ytldkjjnjdjfipaa
open Go Go.RowKit
set_option linter.unusedVariables false
set_option linter.unusedSimpArgs false
def elemN (l : List Rec) (k : Nat) : Rec := if k < l.length then l.getD k default else ⟨true, 0, 0, 0⟩
def chkN (l : List Rec) (s q : Nat) : List Rec := (List.range q).map fun j => elemN l (s + j)
theorem chk_next (l : List Rec) (s q : Nat) : chkN l s q ++ [elemN l (s + q)] = chkN l s (q + 1) := by simp [chkN, List.range_succ]
theorem chk_len (l : List Rec) (s q : Nat) : (chkN l s q).length = q := by simp [chkN]
theorem chk_in {l xs : List Rec} {s q : Nat} (h : xs = chkN l s q) (hk : s + q < l.length) : xs ++ [l.getD (s + q) default] = chkN l s (q + 1) := by
  subst h
  rw [← chk_next]
  unfold elemN
  rw [if_pos hk]
theorem chk_out {l xs : List Rec} {s q : Nat} (h : xs = chkN l s q) (hk : ¬ s + q < l.length) : xs ++ [Rec.mk true 0 0 0] = chkN l s (q + 1) := by
  subst h
  rw [← chk_next]
  unfold elemN
  rw [if_neg hk]
def blk0 (sq : Bool) (l : List Rec) (z i : Nat) : List (List Rec) := (List.range i).map fun i => msort sq (chkN l (i * z) z)
theorem blk0_next (sq : Bool) (l : List Rec) (z i : Nat) : blk0 sq l z i ++ [msort sq (chkN l (i * z) z)] = blk0 sq l z (i + 1) := by simp [blk0, List.range_succ]
theorem blk0_inv (sq : Bool) (l : List Rec) (z i : Nat) : BInv sq i z (blk0 sq l z i) := by
  refine ⟨by simp [blk0], fun x hx => ?_⟩
  obtain ⟨k, -, rfl⟩ := List.mem_map.1 hx
  exact ⟨by rw [msort_len, chk_len], srt_msort sq _⟩
theorem binv_len {sq : Bool} {n z k : Nat} {bs : List (List Rec)} (h : BInv sq n z bs) (hk : k < n) : (bs.getD k []).length = z := (h.2 _ (getD_mem (by rw [h.1]; exact hk))).1
def blkK (sq : Bool) (K r : Nat) (X : List (List Rec)) (a : Nat) : List (List Rec) := blkStep sq (decide (a / 2 ^ (stK K r).1 % 2 = 0)) (2 ^ ((stK K r).2 - 1)) X a
def bnet (sq : Bool) (K : Nat) (B : List (List Rec)) (r : Nat) : List (List Rec) := Bit.netTo (2 ^ K) (fun r => 2 ^ ((stK K r).2 - 1)) (blkK sq K) B r
def bcmp (sq : Bool) (K r : Nat) (X : List (List Rec)) (i : Nat) : List (List Rec) := ((frs ((2 ^ K : Nat) : Int) (r : Int)).take i).foldl (blkK sq K r) X
theorem bcmp_all {sq : Bool} {K r i : Nat} {x : List (List Rec)} (h : K ≤ 16) (hr : r < rnd ((2 ^ K : Nat) : Int)) (hi : (frs ((2 ^ K : Nat) : Int) (r : Int)).length ≤ i) : bcmp sq K r (bnet sq K x r) i = bnet sq K x (r + 1) := by
  unfold bcmp
  rw [List.take_of_length_le hi, frsK h hr]
  rfl
theorem bcmp_succ {sq : Bool} {K r i : Nat} {X : List (List Rec)} (hi : i < (frs ((2 ^ K : Nat) : Int) (r : Int)).length) : bcmp sq K r X (i + 1) = blkK sq K r (bcmp sq K r X i) ((frs ((2 ^ K : Nat) : Int) (r : Int)).getD i 0) := by
  unfold bcmp
  rw [List.take_succ_eq_append_getElem hi, List.foldl_append, List.getD_eq_getElem?_getD, List.getElem?_eq_getElem hi]
  rfl
theorem bst_up {sq : Bool} {K r i a z : Nat} {X Y : List (List Rec)} (hY : Y = bcmp sq K r X i) (hi : i < (frs ((2 ^ K : Nat) : Int) (r : Int)).length) (p : PairK K r i a) (hz : (Y.getD a []).length = z) (hu : up ((2 ^ K : Nat) : Int) (r : Int) (a : Int) = true) :
    (Y.set a ((mgd sq (Y.getD a []) (Y.getD (a + 2 ^ ((stK K r).2 - 1)) [])).take z)).set (a + 2 ^ ((stK K r).2 - 1)) ((mgd sq (Y.getD a []) (Y.getD (a + 2 ^ ((stK K r).2 - 1)) [])).drop z) = bcmp sq K r X (i + 1) := by
  rw [bcmp_succ hi, p.g, ← hY]
  unfold blkK blkStep
  rw [← p.u, hu]
  subst hz
  simp
theorem bst_dn {sq : Bool} {K r i a z : Nat} {X Y : List (List Rec)} (hY : Y = bcmp sq K r X i) (hi : i < (frs ((2 ^ K : Nat) : Int) (r : Int)).length) (p : PairK K r i a) (hz : (Y.getD a []).length = z) (hu : up ((2 ^ K : Nat) : Int) (r : Int) (a : Int) = false) :
    (Y.set a ((mgd sq (Y.getD a []) (Y.getD (a + 2 ^ ((stK K r).2 - 1)) [])).drop z)).set (a + 2 ^ ((stK K r).2 - 1)) ((mgd sq (Y.getD a []) (Y.getD (a + 2 ^ ((stK K r).2 - 1)) [])).take z) = bcmp sq K r X (i + 1) := by
  rw [bcmp_succ hi, p.g, ← hY]
  unfold blkK blkStep
  rw [← p.u, hu]
  subst hz
  simp
theorem bst_inv {sq : Bool} {K r i a z : Nat} {X Y : List (List Rec)} (hY : Y = bcmp sq K r X i) (hB : BInv sq (2 ^ K) z Y) (hi : i < (frs ((2 ^ K : Nat) : Int) (r : Int)).length) (p : PairK K r i a) : BInv sq (2 ^ K) z (bcmp sq K r X (i + 1)) := by
  rw [bcmp_succ hi, p.g, ← hY]
  exact (blk_step hB (Nat.two_pow_pos _) p.lt).1
theorem binv_eq {sq : Bool} {n z : Nat} {Y Z : List (List Rec)} (h : Y = Z) (hz : BInv sq n z Z) : BInv sq n z Y := h ▸ hz
theorem bnet_srt {sq : Bool} {K z r : Nat} {B : List (List Rec)} (hK : K ≤ 16) (hB : BInv sq (2 ^ K) z B) (hr : r = rnd ((2 ^ K : Nat) : Int)) : Srt sq (bnet sq K B r).flatten := by
  rw [hr, rnd_tri hK]
  exact (net_blocks (st := stK K) (stK_at hK) hB).2
theorem srtd_of {sq : Bool} {l : List Rec} (h : Srt sq l) : srtd sq l = true := by
  unfold srtd
  refine decide_eq_true fun j hj h1 => ?_
  have h2 := List.pairwise_iff_getElem.1 h (j - 1) j (by omega) hj (by omega)
  rw [List.getD_eq_getElem?_getD, List.getD_eq_getElem?_getD, List.getElem?_eq_getElem hj, List.getElem?_eq_getElem (by omega), Option.getD_some, Option.getD_some]
  exact (Bool.eq_false_iff).2 fun h3 => by
    rw [ahd_rk, decide_eq_true_eq] at h3
    omega
theorem hn_set {hd : List SlH} {N z i j : Nat} {h1 h2 : SlH} (hl : hd.length = N) (hi : i < N) (hj : j < N) (h : ∀ k, k < N → (hd.getD k default).n = z) (e1 : h1.n = z) (e2 : h2.n = z) : ∀ k, k < N → (((hd.set i h1).set j h2).getD k default).n = z := by
  intro k hk
  rw [getD_set (by rw [List.length_set]; omega), getD_set (by omega)]
  split
  · exact e2
  · split
    · exact e1
    · exact h k hk
theorem hn_app {hd : List SlH} {N z : Nat} {h1 : SlH} (hl : hd.length = N) (h : ∀ k, k < N → (hd.getD k default).n = z) (e1 : h1.n = z) : ∀ k, k < N + 1 → ((hd ++ [h1]).getD k default).n = z := by
  intro k hk
  rw [getD_app]
  split
  · exact h k (by omega)
  · rw [if_pos (by omega)]; exact e1
theorem flat_next {bs : List (List Rec)} {al : List Rec} {i : Nat} (h : al = (bs.take i).flatten) (hi : i < bs.length) : al ++ bs.getD i [] = (bs.take (i + 1)).flatten := by
  subst h
  rw [List.take_succ_eq_append_getElem hi, List.flatten_append, List.getD_eq_getElem?_getD, List.getElem?_eq_getElem hi]
  simp
end Go.Proofs.Ytldkjjnjdjfipaa
