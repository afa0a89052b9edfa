/- P11: straight-line programs: what may be, and what a run makes. Plain. -/
import Derived.Test.YtldkjjnjdjfipaaWRec
namespace Go.Proofs.Ytldkjjnjdjfipaa
open Go Go.RowKit
set_option linter.unusedVariables false
set_option linter.unusedSimpArgs false

structure Opc where
  o0 : Int
  o1 : Int
  o2 : Int
  o3 : Int
  o4 : Int
  o5 : Int64
deriving DecidableEq
instance : Inhabited Opc := ⟨⟨0, 0, 0, 0, 0, 0⟩⟩
@[reducible] def opcV (p : Opc) : List Value := [.int .i64 p.o0, .int .i64 p.o1, .int .i64 p.o2, .int .i64 p.o3, .int .i64 p.o4, .int .i64 p.o5.toInt]
theorem opcV_len (p : Opc) : (opcV p).length = 6 := rfl
theorem opcV_one (p : Opc) : (opcV p).all Value.oneCell' = true := rfl

/-- may an operation, a part, a program be? -/
def rOk (r : Int) : Bool := decide (0 ≤ r ∧ r < 8)
def opOk (k : Int) (o : Opc) : Bool := decide (1 ≤ o.o0 ∧ o.o0 ≤ 12) && (rOk o.o1 && rOk o.o2 && rOk o.o3 && rOk o.o4) && (decide (o.o0 ≠ 12) || decide (0 ≤ o.o5.toInt ∧ o.o5.toInt < k))
def partOk (k : Int) (l : List Opc) : Bool := decide (l.length ≤ 40) && l.all (opOk k)
def chkB (k : Int) (a b c : List Opc) : Bool := decide (1 ≤ k ∧ k ≤ 4) && (partOk k a && partOk 0 b && partOk 0 c)
def chk11 (k : Int) (a b c : List Opc) : Int := if chkB k a b c then 0 else 8

def one64 (b : Bool) : Int64 := bif b then 1 else 0
def madeV (o : Opc) (a b c : Int64) : Int64 :=
  if o.o0 = 1 then o.o5
  else if o.o0 = 2 then a + b
  else if o.o0 = 3 then a - b
  else if o.o0 = 4 then a * b
  else if o.o0 = 5 then a &&& b
  else if o.o0 = 6 then a ||| b
  else if o.o0 = 7 then a ^^^ b
  else if o.o0 = 8 then one64 (decide (a < b))
  else if o.o0 = 9 then one64 (decide (a = b))
  else if o.o0 = 10 then (if a = 0 then c else b)
  else a >>> (b &&& 63)
def emitR (q a b c : Int64) : Rec := if c = 0 then ⟨true, 0, 0, 0⟩ else ⟨false, a, b, q⟩
structure Mach where
  r : List Int64
  s : List Rec
def rg (m : Mach) (i : Int) : Int64 := m.r.getD i.toNat 0
def stepM (q : Int64) (m : Mach) (o : Opc) : Mach :=
  if o.o0 = 12 then ⟨m.r, m.s.set o.o5.toInt.toNat (emitR (q + o.o5) (rg m o.o2) (rg m o.o3) (rg m o.o4))⟩
  else ⟨m.r.set o.o1.toNat (madeV o (rg m o.o2) (rg m o.o3) (rg m o.o4)), m.s⟩
def runM (q : Int64) (m : Mach) (l : List Opc) : Mach := l.foldl (stepM q) m
theorem runM_0 (q : Int64) (m : Mach) (l : List Opc) : runM q m (l.take 0) = m := rfl
theorem runM_app (q : Int64) (m : Mach) (l z : List Opc) : runM q m (l ++ z) = runM q (runM q m l) z := List.foldl_append
theorem runM_step {q : Int64} {m : Mach} {l : List Opc} {i : Nat} (h : i < l.length) : runM q m (l.take (i + 1)) = stepM q (runM q m (l.take i)) (l.getD i default) := by
  rw [List.take_succ_eq_append_getElem h, runM_app, List.getD_eq_getElem?_getD, List.getElem?_eq_getElem h]
  rfl
theorem stepM_r (q : Int64) (m : Mach) (o : Opc) : (stepM q m o).r.length = m.r.length := by unfold stepM; split <;> simp
theorem stepM_s (q : Int64) (m : Mach) (o : Opc) : (stepM q m o).s.length = m.s.length := by unfold stepM; split <;> simp
theorem runM_r (q : Int64) (l : List Opc) : ∀ m : Mach, (runM q m l).r.length = m.r.length := by
  induction l with
  | nil => intro m; rfl
  | cons o l ih => intro m; show (runM q (stepM q m o) l).r.length = _; rw [ih, stepM_r]
theorem runM_s (q : Int64) (l : List Opc) : ∀ m : Mach, (runM q m l).s.length = m.s.length := by
  induction l with
  | nil => intro m; rfl
  | cons o l ih => intro m; show (runM q (stepM q m o) l).s.length = _; rw [ih, stepM_s]
def zreg (a b c : Int64) : List Int64 := [a, b, c, 0, 0, 0, 0, 0]
def mapP (k : Int) (l : List Opc) (n a b : Int64) : List Rec := (runM (n * Int64.ofInt k) ⟨zreg a b n, List.replicate k.toNat deadR⟩ l).s
def doneP (l : List Opc) (a b : Int64) : Int64 := (runM 0 ⟨zreg a b 0, []⟩ l).r.getD 0 0

theorem part_at {k : Int} {l : List Opc} (h : partOk k l = true) {i : Nat} (hi : i < l.length) : opOk k (l.getD i default) = true := by
  unfold partOk at h
  rw [Bool.and_eq_true, List.all_eq_true] at h
  refine h.2 _ ?_
  rw [List.getD_eq_getElem?_getD, List.getElem?_eq_getElem hi]
  exact List.getElem_mem hi
theorem part_len {k : Int} {l : List Opc} (h : partOk k l = true) : l.length ≤ 40 := by
  unfold partOk at h
  rw [Bool.and_eq_true] at h
  exact of_decide_eq_true h.1
theorem op_regs {k : Int} {o : Opc} (h : opOk k o = true) : 1 ≤ o.o0 ∧ o.o0 ≤ 12 ∧ 0 ≤ o.o1 ∧ o.o1 < 8 ∧ 0 ≤ o.o2 ∧ o.o2 < 8 ∧ 0 ≤ o.o3 ∧ o.o3 < 8 ∧ 0 ≤ o.o4 ∧ o.o4 < 8 := by
  unfold opOk rOk at h
  simp only [Bool.and_eq_true, decide_eq_true_eq] at h
  omega
theorem op_slot {k : Int} {o : Opc} (h : opOk k o = true) (h2 : o.o0 = 12) : 0 ≤ o.o5.toInt ∧ o.o5.toInt < k := by
  unfold opOk at h
  simp only [Bool.and_eq_true, Bool.or_eq_true, decide_eq_true_eq] at h
  rcases h.2 with h3 | h3
  · exact absurd h2 h3
  · exact h3
theorem chk_yes {k : Int} {a b c : List Opc} (h : chk11 k a b c = 0) : chkB k a b c = true := by
  unfold chk11 at h
  split at h
  · assumption
  · exact absurd h (by decide)
theorem chk_bd {k : Int} {a b c : List Opc} (h : chkB k a b c = true) : 1 ≤ k ∧ k ≤ 4 ∧ partOk k a = true ∧ partOk 0 b = true ∧ partOk 0 c = true := by
  unfold chkB at h
  simp only [Bool.and_eq_true, decide_eq_true_eq] at h
  exact ⟨h.1.1, h.1.2, h.2.1.1, h.2.1.2, h.2.2⟩
theorem chk_0 {k : Int} {a b c : List Opc} (h : chkB k a b c = true) : chk11 k a b c = 0 := by unfold chk11; rw [if_pos h]
theorem chk_8 {k : Int} {a b c : List Opc} (h : chkB k a b c = false) : chk11 k a b c = 8 := by unfold chk11; rw [if_neg (by rw [h]; decide)]
end Go.Proofs.Ytldkjjnjdjfipaa
