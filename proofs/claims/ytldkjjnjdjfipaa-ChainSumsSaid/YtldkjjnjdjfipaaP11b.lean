/- P11b: what the laws of straight-line programs say of runs. Plain. -/
import Derived.Test.YtldkjjnjdjfipaaP11
namespace Go.Proofs.Ytldkjjnjdjfipaa
open Go Go.RowKit
set_option linter.unusedVariables false
set_option linter.unusedSimpArgs false

/-! one operation -/
def opsL (x : Int) (c n : Int64) : List Opc := [⟨1, 2, 0, 0, 0, c⟩, ⟨x, 0, 0, 1, 2, n⟩]
theorem ops_ok {x : Int} (h1 : 1 ≤ x) (h2 : x ≤ 11) (c n : Int64) : chkB 1 [] [] (opsL x c n) = true := by
  have h3 : ¬ x = 12 := by omega
  simp [chkB, partOk, opsL, opOk, rOk, h3]
  omega
theorem ops_val {x : Int} (h1 : 1 ≤ x) (h2 : x ≤ 11) (a b c n : Int64) : doneP (opsL x c n) a b = madeV ⟨x, 0, 0, 1, 2, n⟩ a b c := by
  have h3 : ¬ x = 12 := by omega
  unfold doneP opsL
  simp only [runM, List.foldl, stepM, rg, zreg]
  rw [if_neg h3, if_neg (show ¬ (1 : Int) = 12 by decide)]
  rfl
def opsW (a b c n : Int64) : List Int64 := [n, a + b, a - b, a * b, a &&& b, a ||| b, a ^^^ b, one64 (decide (a < b)), one64 (decide (a = b)), (if a = 0 then c else b), a >>> (b &&& 63)]
theorem ops_law {k : Nat} (hk : k < 11) (a b c n : Int64) : doneP (opsL (1 + ((k : Nat) : Int)) c n) a b = (opsW a b c n).getD k default := by
  rw [ops_val (by omega) (by omega)]
  match k, hk with
  | 0, _ => rfl
  | 1, _ => rfl
  | 2, _ => rfl
  | 3, _ => rfl
  | 4, _ => rfl
  | 5, _ => rfl
  | 6, _ => rfl
  | 7, _ => rfl
  | 8, _ => rfl
  | 9, _ => rfl
  | 10, _ => rfl

/-! a line of additions -/
def lineU (idle : Bool) : List Opc := ⟨2, 0, 0, 2, 0, 0⟩ :: (bif idle then [⟨4, 7, 0, 2, 0, 0⟩] else [])
def lineL (c : Int64) (idle : Bool) (i : Nat) : List Opc := ⟨1, 2, 0, 0, 0, c⟩ :: (List.range i).flatMap fun _ => lineU idle
def lineW (v c : Int64) : Nat → Int64
  | 0 => v
  | i + 1 => lineW v c i + c
theorem lineL_next (c : Int64) (idle : Bool) (i : Nat) : lineL c idle i ++ lineU idle = lineL c idle (i + 1) := by simp [lineL, List.range_succ]
theorem lineL_len (c : Int64) (idle : Bool) (i : Nat) : (lineL c idle i).length ≤ 1 + 2 * i := by
  induction i with
  | zero => simp [lineL]
  | succ i ih =>
    rw [← lineL_next, List.length_append]
    have : (lineU idle).length ≤ 2 := by cases idle <;> simp [lineU]
    omega
theorem lineL_all (c : Int64) (idle : Bool) (i : Nat) : (lineL c idle i).all (opOk 0) = true := by
  induction i with
  | zero => rfl
  | succ i ih =>
    rw [← lineL_next, List.all_append, ih]
    cases idle <;> rfl
theorem line_ok {c : Int64} {idle : Bool} {i : Nat} (hi : i ≤ 18) : chkB 1 [] (lineL c idle i) [] = true := by
  have h1 := lineL_len c idle i
  have h2 : partOk 0 (lineL c idle i) = true := by
    unfold partOk
    rw [lineL_all, decide_eq_true (by omega)]
    rfl
  unfold chkB
  rw [h2]
  rfl
theorem line_run (v b c : Int64) (idle : Bool) (i : Nat) : ∃ z, runM 0 ⟨zreg v b 0, []⟩ (lineL c idle i) = ⟨[lineW v c i, b, c, 0, 0, 0, 0, z], []⟩ := by
  induction i with
  | zero => exact ⟨0, rfl⟩
  | succ i ih =>
    obtain ⟨z, hz⟩ := ih
    rw [← lineL_next, runM_app, hz]
    cases idle
    · exact ⟨z, rfl⟩
    · exact ⟨(lineW v c i + c) * c, rfl⟩
theorem line_law (v b c : Int64) (idle : Bool) (i : Nat) : doneP (lineL c idle i) v b = lineW v c i := by
  obtain ⟨z, hz⟩ := line_run v b c idle i
  unfold doneP
  rw [hz]
  rfl

/-! slots -/
def slotU (f : Nat → Int64) (s : Nat → Int64) (i : Nat) : List Opc := [⟨1, 5, 0, 0, 0, f i⟩, ⟨12, 0, 0, 1, 5, s i⟩]
def slotL (f : Nat → Int64) (s : Nat → Int64) (i : Nat) : List Opc := (List.range i).flatMap (slotU f s)
theorem slotL_next (f s : Nat → Int64) (i : Nat) : slotL f s i ++ slotU f s i = slotL f s (i + 1) := by simp [slotL, List.range_succ]
theorem slotL_len (f s : Nat → Int64) (i : Nat) : (slotL f s i).length = 2 * i := by
  induction i with
  | zero => rfl
  | succ i ih => rw [← slotL_next, List.length_append, ih]; show 2 * i + 2 = _; omega
theorem slotL_all {k : Int} {f s : Nat → Int64} {i : Nat} (h : ∀ j, j < i → 0 ≤ (s j).toInt ∧ (s j).toInt < k) : (slotL f s i).all (opOk k) = true := by
  induction i with
  | zero => rfl
  | succ i ih =>
    rw [← slotL_next, List.all_append, ih (fun j hj => h j (by omega))]
    have h2 := h i (by omega)
    simp [slotU, opOk, rOk, h2]
theorem slot_ok {k : Int} {f s : Nat → Int64} {i : Nat} (hk : 1 ≤ k ∧ k ≤ 4) (hi : i ≤ 20) (h : ∀ j, j < i → 0 ≤ (s j).toInt ∧ (s j).toInt < k) : chkB k (slotL f s i) [] [] = true := by
  have h2 : partOk k (slotL f s i) = true := by
    unfold partOk
    rw [slotL_all h, slotL_len, decide_eq_true (by omega)]
    rfl
  unfold chkB
  rw [h2, decide_eq_true hk]
  rfl
def slotE (a b q : Int64) (f s : Nat → Int64) (i : Nat) : Rec := emitR (q + s i) a b (f i)
def slotW (N : Nat) (a b q : Int64) (f s : Nat → Int64) : Nat → List Rec
  | 0 => List.replicate N deadR
  | i + 1 => (slotW N a b q f s i).set (s i).toInt.toNat (slotE a b q f s i)
theorem slotW_len (N : Nat) (a b q : Int64) (f s : Nat → Int64) (i : Nat) : (slotW N a b q f s i).length = N := by
  induction i with
  | zero => simp [slotW]
  | succ i ih => simp [slotW, ih]
theorem slot_run (N : Nat) (q a b n : Int64) (f s : Nat → Int64) (i : Nat) : ∃ z, runM q ⟨zreg a b n, List.replicate N deadR⟩ (slotL f s i) = ⟨[a, b, n, 0, 0, z, 0, 0], slotW N a b q f s i⟩ := by
  induction i with
  | zero => exact ⟨0, rfl⟩
  | succ i ih =>
    obtain ⟨z, hz⟩ := ih
    rw [← slotL_next, runM_app, hz]
    exact ⟨f i, rfl⟩
theorem slot_law (k : Int) (a b n : Int64) (f s : Nat → Int64) (i : Nat) : mapP k (slotL f s i) n a b = slotW k.toNat a b (n * Int64.ofInt k) f s i := by
  obtain ⟨z, hz⟩ := slot_run k.toNat (n * Int64.ofInt k) a b n f s i
  unfold mapP
  rw [hz]

/-! a bad one -/
def goodO : Opc := ⟨2, 1, 2, 3, 4, 0⟩
def badO (x : Nat) : Opc :=
  if x = 0 then ⟨13, 1, 2, 3, 4, 0⟩
  else if x = 1 then ⟨2, 8, 2, 3, 4, 0⟩
  else if x = 2 then ⟨2, 1, -1, 3, 4, 0⟩
  else if x = 3 then ⟨2, 1, 2, 8, 4, 0⟩
  else if x = 4 then ⟨2, 1, 2, 3, -1, 0⟩
  else if x = 5 then ⟨12, 0, 0, 0, 0, 2⟩
  else ⟨0, 1, 2, 3, 4, 0⟩
theorem bad_op (x : Nat) {k : Int} (hk : k ≤ 2) : opOk k (badO x) = false := by
  unfold badO
  repeat' split
  all_goals first
    | rfl
    | (have h2 : ((2 : Int64).toInt) = 2 := by decide
       simp [opOk, rOk, h2]
       omega)
theorem bad_part {k : Int} (hk : k ≤ 2) (x : Nat) {l : List Opc} {j : Nat} (hj : j < l.length) : partOk k (l.set j (badO x)) = false := by
  unfold partOk
  have h2 : (l.set j (badO x)).all (opOk k) = false := by
    rw [List.all_eq_false]
    refine ⟨badO x, List.mem_set hj _, ?_⟩
    rw [bad_op x hk]
    decide
  rw [h2, Bool.and_false]
theorem bad11_0 (x : Nat) {l b c : List Opc} {j : Nat} (hj : j < l.length) : chkB 2 (l.set j (badO x)) b c = false := by
  unfold chkB
  rw [bad_part (by decide) x hj]
  simp
theorem bad11_1 (x : Nat) {l b c : List Opc} {j : Nat} (hj : j < l.length) : chkB 2 b (l.set j (badO x)) c = false := by
  unfold chkB
  rw [bad_part (by decide) x hj]
  simp
theorem bad11_2 (x : Nat) {l b c : List Opc} {j : Nat} (hj : j < l.length) : chkB 2 b c (l.set j (badO x)) = false := by
  unfold chkB
  rw [bad_part (by decide) x hj]
  simp
end Go.Proofs.Ytldkjjnjdjfipaa
