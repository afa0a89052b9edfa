/- What single operations yield: loads, numbers, slices, calls. It states nothing of the program. -/
import Derived.Test.YtldkjjnjdjfipaaYld
namespace Go.Proofs.Ytldkjjnjdjfipaa
open Go Go.RowKit
set_option linter.unusedVariables false
set_option linter.unusedSimpArgs false

section
variable {P : Program} {w0 : World} {D : List Nat} {n : Nat} {r : Option Nat} {ds : List Nat} {σ : Fr} {L : List Res}

/-! ### Loads -/
/-- From cell b, o on lie these. -/
def CellsAt (w : World) (b o : Nat) (vs : List Value) : Prop := ∀ j v, vs[j]? = some v → w.cell? ⟨b, o + j, none⟩ = some v

theorem cel_cell {b : Nat} {t : TypeId} {l : List Value} {w : World} (h : (cel b t l).ok w) (j : Nat) : w.cell? ⟨b, j, none⟩ = l[j]? := by
  have h' : w.heap[b]? = some (.cells l.toArray t (0, 0)) := h
  rw [cell_of_row w b j l.toArray t (0, 0) h']
  simp

theorem own1 {b o : Nat} {t : TypeId} {l : List Value} {M : List Res} {v : Value} (hp : Pick L (cel b t l) M) (hv : l[o]? = some v) : ∀ w, SH w0 D L w → w.cell? ⟨b, o, none⟩ = some v :=
  fun w hs => (cel_cell (hs.get hp) o).trans hv
theorem ownN {b o : Nat} {t : TypeId} {l : List Value} {M : List Res} {vs : List Value} (hp : Pick L (cel b t l) M) (hv : (l.drop o).take vs.length = vs) : ∀ w, SH w0 D L w → CellsAt w b o vs :=
  fun w hs j v hj => by
    rw [cel_cell (hs.get hp) (o + j)]
    have hlt : j < vs.length := (List.getElem?_eq_some_iff.1 hj).1
    rw [← hv, List.getElem?_take, if_pos hlt, List.getElem?_drop] at hj
    exact hj
theorem old1 {b o : Nat} {v : Value} (h : w0.cell? ⟨b, o, none⟩ = some v) (hD : b ∉ D) : ∀ w, SH w0 D L w → w.cell? ⟨b, o, none⟩ = some v :=
  fun w hs => (World.cell?_of_block (w := w0) (a := ⟨b, o, none⟩) (hs.old b (World.block_lt_of_cell? w0 ⟨b, o, none⟩ h) hD)).trans h
theorem oldN {b o : Nat} {vs : List Value} (h : CellsAt w0 b o vs) (hD : b ∉ D) : ∀ w, SH w0 D L w → CellsAt w b o vs :=
  fun w hs j v hj => old1 (h j v hj) hD w hs

theorem y_load1 {t : TypeId} {x : Operand} {b o : Nat} {v : Value} (hx : ev σ x = .pointer (some ⟨b, o, none⟩)) (ha : ∀ w, (isAgg t).run P w = .ok false w) (h : ∀ w, SH w0 D L w → w.cell? ⟨b, o, none⟩ = some v) : OpR P w0 D σ L (.load t x) v :=
  .mk (by simp) fun d ty pos af g w hs => by simp [execOp, hx, Instr.loadAt, Instr.sureAddr, loadVar, ha, h w hs]

theorem run_loadAgg {t : TypeId} {b o : Nat} {vs : List Value} {w : World} (ha : ∀ w, (isAgg t).run P w = .ok true w) (hs : ∀ w, (sizeOf t).run P w = .ok vs.length w) (h : CellsAt w b o vs) : (loadVar t ⟨b, o, none⟩).run P w = .ok (.agg vs.toArray) w := by
  have hl := run_loadCells_list (P := P) w ⟨b, o, none⟩ vs (fun j v hj => by rw [Addr.add_lit]; exact h j v hj)
  simp [loadVar, ha, hs, hl]

theorem y_loadN {t : TypeId} {x : Operand} {b o : Nat} {vs : List Value} (hx : ev σ x = .pointer (some ⟨b, o, none⟩)) (ha : ∀ w, (isAgg t).run P w = .ok true w) (hs : ∀ w, (sizeOf t).run P w = .ok vs.length w)
    (h : ∀ w, SH w0 D L w → CellsAt w b o vs) : OpR P w0 D σ L (.load t x) (.agg vs.toArray) :=
  .mk (by simp) fun d ty pos af g w hw => by simp [execOp, hx, Instr.loadAt, Instr.sureAddr, run_loadAgg ha hs (h w hw)]

/-! ### Numbers -/
theorem y_add {t t2 : TypeId} {x y : Operand} {k : IntKind} {a b c : Int} (hx : ev σ x = .int k a) (hy : ev σ y = .int k b) (h : k.wrap (a + b) = c) : OpR P w0 D σ L (.binOp .add t x y t2) (.int k c) :=
  .mk (by simp) fun d ty pos af g w _ => by subst h; simp [execOp, hx, hy, eqGuard, binOp, Op.intArith]
theorem y_sub {t t2 : TypeId} {x y : Operand} {k : IntKind} {a b c : Int} (hx : ev σ x = .int k a) (hy : ev σ y = .int k b) (h : k.wrap (a - b) = c) : OpR P w0 D σ L (.binOp .sub t x y t2) (.int k c) :=
  .mk (by simp) fun d ty pos af g w _ => by subst h; simp [execOp, hx, hy, eqGuard, binOp, Op.intArith]
theorem y_mul {t t2 : TypeId} {x y : Operand} {k : IntKind} {a b c : Int} (hx : ev σ x = .int k a) (hy : ev σ y = .int k b) (h : k.wrap (a * b) = c) : OpR P w0 D σ L (.binOp .mul t x y t2) (.int k c) :=
  .mk (by simp) fun d ty pos af g w _ => by subst h; simp [execOp, hx, hy, eqGuard, binOp, Op.intArith]
theorem y_quo {t t2 : TypeId} {x y : Operand} {k : IntKind} {a b c : Int} (hx : ev σ x = .int k a) (hy : ev σ y = .int k b) (h0 : b ≠ 0) (h : k.wrap (a.tdiv b) = c) : OpR P w0 D σ L (.binOp .quo t x y t2) (.int k c) :=
  .mk (by simp) fun d ty pos af g w _ => by subst h; simp [execOp, hx, hy, eqGuard, binOp, Op.intDiv, h0]
theorem y_rem {t t2 : TypeId} {x y : Operand} {k : IntKind} {a b c : Int} (hx : ev σ x = .int k a) (hy : ev σ y = .int k b) (h0 : b ≠ 0) (h : a.tmod b = c) : OpR P w0 D σ L (.binOp .rem t x y t2) (.int k c) :=
  .mk (by simp) fun d ty pos af g w _ => by subst h; simp [execOp, hx, hy, eqGuard, binOp, Op.intDiv, h0]
theorem y_and {t t2 : TypeId} {x y : Operand} {k : IntKind} {a b c : Int} (hx : ev σ x = .int k a) (hy : ev σ y = .int k b) (h : k.wrap ((BitVec.ofInt k.bits a &&& BitVec.ofInt k.bits b).toNat : Int) = c) : OpR P w0 D σ L (.binOp .and t x y t2) (.int k c) :=
  .mk (by simp) fun d ty pos af g w _ => by subst h; simp [execOp, hx, hy, eqGuard, binOp, Op.intBits]
theorem y_or {t t2 : TypeId} {x y : Operand} {k : IntKind} {a b c : Int} (hx : ev σ x = .int k a) (hy : ev σ y = .int k b) (h : k.wrap ((BitVec.ofInt k.bits a ||| BitVec.ofInt k.bits b).toNat : Int) = c) : OpR P w0 D σ L (.binOp .or t x y t2) (.int k c) :=
  .mk (by simp) fun d ty pos af g w _ => by subst h; simp [execOp, hx, hy, eqGuard, binOp, Op.intBits]
theorem y_xor {t t2 : TypeId} {x y : Operand} {k : IntKind} {a b c : Int} (hx : ev σ x = .int k a) (hy : ev σ y = .int k b) (h : k.wrap ((BitVec.ofInt k.bits a ^^^ BitVec.ofInt k.bits b).toNat : Int) = c) : OpR P w0 D σ L (.binOp .xor t x y t2) (.int k c) :=
  .mk (by simp) fun d ty pos af g w _ => by subst h; simp [execOp, hx, hy, eqGuard, binOp, Op.intBits]
theorem y_andNot {t t2 : TypeId} {x y : Operand} {k : IntKind} {a b c : Int} (hx : ev σ x = .int k a) (hy : ev σ y = .int k b) (h : k.wrap ((BitVec.ofInt k.bits a &&& ~~~ BitVec.ofInt k.bits b).toNat : Int) = c) : OpR P w0 D σ L (.binOp .andNot t x y t2) (.int k c) :=
  .mk (by simp) fun d ty pos af g w _ => by subst h; simp [execOp, hx, hy, eqGuard, binOp, Op.intBits]
theorem y_shl {t t2 : TypeId} {x y : Operand} {k k2 : IntKind} {a b c : Int} (hx : ev σ x = .int k a) (hy : ev σ y = .int k2 b) (h0 : 0 ≤ b) (h : k.wrap (a * 2 ^ min b.toNat k.bits) = c) : OpR P w0 D σ L (.binOp .shl t x y t2) (.int k c) :=
  .mk (by simp) fun d ty pos af g w _ => by subst h; simp [execOp, hx, hy, eqGuard, binOp, shift_shl_any k k2 a b h0]
theorem y_shr {t t2 : TypeId} {x y : Operand} {k k2 : IntKind} {a b c : Int} (hx : ev σ x = .int k a) (hy : ev σ y = .int k2 b) (h0 : 0 ≤ b) (h : a / 2 ^ min b.toNat k.bits = c) : OpR P w0 D σ L (.binOp .shr t x y t2) (.int k c) :=
  .mk (by simp) fun d ty pos af g w _ => by subst h; simp [execOp, hx, hy, eqGuard, binOp, shift_shr_any k k2 a b h0]
theorem beq_dec (a b : Int) : (a == b) = decide (a = b) := by rw [Bool.eq_iff_iff]; simp
theorem y_eql {t t2 : TypeId} {x y : Operand} {k : IntKind} {a b : Int} {c : Bool} (hx : ev σ x = .int k a) (hy : ev σ y = .int k b) (h : decide (a = b) = c) : OpR P w0 D σ L (.binOp .eql t x y t2) (.bool c) :=
  .mk (by simp) fun d ty pos af g w _ => by subst h; simp [execOp, hx, hy, eqGuard, binOp, Op.intCmp, beq_dec]
theorem y_neq {t t2 : TypeId} {x y : Operand} {k : IntKind} {a b : Int} {c : Bool} (hx : ev σ x = .int k a) (hy : ev σ y = .int k b) (h : decide (a ≠ b) = c) : OpR P w0 D σ L (.binOp .neq t x y t2) (.bool c) :=
  .mk (by simp) fun d ty pos af g w _ => by subst h; simp [execOp, hx, hy, eqGuard, binOp, Op.intCmp, bne, beq_dec]
theorem y_lss {t t2 : TypeId} {x y : Operand} {k : IntKind} {a b : Int} {c : Bool} (hx : ev σ x = .int k a) (hy : ev σ y = .int k b) (h : decide (a < b) = c) : OpR P w0 D σ L (.binOp .lss t x y t2) (.bool c) :=
  .mk (by simp) fun d ty pos af g w _ => by subst h; simp [execOp, hx, hy, eqGuard, binOp, Op.intCmp]
theorem y_leq {t t2 : TypeId} {x y : Operand} {k : IntKind} {a b : Int} {c : Bool} (hx : ev σ x = .int k a) (hy : ev σ y = .int k b) (h : decide (a ≤ b) = c) : OpR P w0 D σ L (.binOp .leq t x y t2) (.bool c) :=
  .mk (by simp) fun d ty pos af g w _ => by subst h; simp [execOp, hx, hy, eqGuard, binOp, Op.intCmp]
theorem y_gtr {t t2 : TypeId} {x y : Operand} {k : IntKind} {a b : Int} {c : Bool} (hx : ev σ x = .int k a) (hy : ev σ y = .int k b) (h : decide (b < a) = c) : OpR P w0 D σ L (.binOp .gtr t x y t2) (.bool c) :=
  .mk (by simp) fun d ty pos af g w _ => by subst h; simp [execOp, hx, hy, eqGuard, binOp, Op.intCmp]
theorem y_geq {t t2 : TypeId} {x y : Operand} {k : IntKind} {a b : Int} {c : Bool} (hx : ev σ x = .int k a) (hy : ev σ y = .int k b) (h : decide (b ≤ a) = c) : OpR P w0 D σ L (.binOp .geq t x y t2) (.bool c) :=
  .mk (by simp) fun d ty pos af g w _ => by subst h; simp [execOp, hx, hy, eqGuard, binOp, Op.intCmp]
theorem y_eqlB {t t2 : TypeId} {x y : Operand} {a b c : Bool} (ht : P.underlying t = some .bool) (hx : ev σ x = .bool a) (hy : ev σ y = .bool b) (h : (a == b) = c) : OpR P w0 D σ L (.binOp .eql t x y t2) (.bool c) :=
  .mk (by simp) fun d ty pos af g w _ => by subst h; simp [execOp, hx, hy, eqGuard, binOp, Op.equal, Op.maxDepth, run_equalIn_bool' w 9999 t a b ht]
theorem y_neqB {t t2 : TypeId} {x y : Operand} {a b c : Bool} (ht : P.underlying t = some .bool) (hx : ev σ x = .bool a) (hy : ev σ y = .bool b) (h : (!(a == b)) = c) : OpR P w0 D σ L (.binOp .neq t x y t2) (.bool c) :=
  .mk (by simp) fun d ty pos af g w _ => by subst h; simp [execOp, hx, hy, eqGuard, binOp, Op.equal, Op.maxDepth, run_equalIn_bool' w 9999 t a b ht]
/-- structs, arrays: by what 'Op.equal' says of the two -/
theorem y_eqlS {t t2 : TypeId} {x y : Operand} {a b : Array Value} {c : Bool} (hg : P.eqGuardType P.depth t = false) (he : ∀ w, (Op.equal t (.agg a) (.agg b)).run P w = .ok c w) (hx : ev σ x = .agg a) (hy : ev σ y = .agg b) : OpR P w0 D σ L (.binOp .eql t x y t2) (.bool c) :=
  .mk (by simp) fun d ty pos af g w _ => by simp [execOp, hx, hy, eqGuard, binOp, hg, he]
theorem y_neqS {t t2 : TypeId} {x y : Operand} {a b : Array Value} {c : Bool} (hg : P.eqGuardType P.depth t = false) (he : ∀ w, (Op.equal t (.agg a) (.agg b)).run P w = .ok c w) (hx : ev σ x = .agg a) (hy : ev σ y = .agg b) : OpR P w0 D σ L (.binOp .neq t x y t2) (.bool (!c)) :=
  .mk (by simp) fun d ty pos af g w _ => by simp [execOp, hx, hy, eqGuard, binOp, hg, he]
theorem y_neg {t : TypeId} {x : Operand} {k : IntKind} {a c : Int} (hx : ev σ x = .int k a) (h : k.wrap (0 - a) = c) : OpR P w0 D σ L (.unOp .neg t x) (.int k c) :=
  .mk (by simp) fun d ty pos af g w _ => by subst h; simp [execOp, hx, Op.unary, Op.intArith]
theorem y_compl {t : TypeId} {x : Operand} {k : IntKind} {a c : Int} (hx : ev σ x = .int k a) (h : k.wrap ((BitVec.ofInt k.bits (if k.signed then -1 else k.max) ^^^ BitVec.ofInt k.bits a).toNat : Int) = c) : OpR P w0 D σ L (.unOp .xor t x) (.int k c) :=
  .mk (by simp) fun d ty pos af g w _ => by subst h; simp [execOp, hx, Op.unary, Op.intBits]
theorem y_convI {t u : TypeId} {x : Operand} {k k2 : IntKind} {a c : Int} {dd : TypeDesc} (hx : ev σ x = .int k a) (ht : P.underlying t = some dd) (hu : P.underlying u = some (.int k2)) (h : k2.wrap a = c) : OpR P w0 D σ L (.convert t u x) (.int k2 c) :=
  .mk (by simp) fun d ty pos af g w _ => by subst h; simp [execOp, hx, convert, run_underlying ht, run_underlying hu, Conv.intToInt]

/-! ### Slices -/
theorem y_len {t : TypeId} {x : Operand} {a : Option Addr} {m c : Nat} {e ty' : TypeId} {at_ : Array TypeId} (hx : ev σ x = .slice a m c) (ht : P.underlying t = some (.slice e)) : OpR P w0 D σ L (.call { callee := .builtin .len, args := #[x], argTypes := #[t] }) (.int .i64 m) :=
  .mk (by simp) fun d ty pos af g w _ => by simp [execOp, resolve, invoke, builtin, Builtin.len_, hx, run_underlying ht, goInt]
theorem y_cap {t : TypeId} {x : Operand} {a : Option Addr} {m c : Nat} {e : TypeId} (hx : ev σ x = .slice a m c) (ht : P.underlying t = some (.slice e)) : OpR P w0 D σ L (.call { callee := .builtin .cap, args := #[x], argTypes := #[t] }) (.int .i64 c) :=
  .mk (by simp) fun d ty pos af g w _ => by simp [execOp, resolve, invoke, builtin, Builtin.cap_, hx, run_underlying ht, goInt]
theorem y_idxS {t : TypeId} {x y : Operand} {b o m c z : Nat} {k : IntKind} {i : Int} {e : TypeId} {o' : Nat} (hx : ev σ x = .slice (some ⟨b, o, none⟩) m c) (hy : ev σ y = .int k i) (ht : P.underlying t = some (.slice e)) (hz : ∀ w, (sizeOf e).run P w = .ok z w)
    (h0 : 0 ≤ i) (h1 : i < m) (ho : o + i.toNat * z = o') : OpR P w0 D σ L (.indexAddr t x y) (.pointer (some ⟨b, o', none⟩)) :=
  .mk (by simp) fun d ty pos af g w _ => by subst ho; simp [execOp, hx, hy, Instr.indexAt, asIntOf, run_underlying ht, hz, h0, h1, Addr.add_lit]
theorem y_idxA {t : TypeId} {x y : Operand} {b o m z : Nat} {k : IntKind} {i : Int} {e : TypeId} {o' : Nat} (hx : ev σ x = .pointer (some ⟨b, o, none⟩)) (hy : ev σ y = .int k i) (ht : P.underlying t = some (.array m e)) (hz : ∀ w, (sizeOf e).run P w = .ok z w)
    (h0 : 0 ≤ i) (h1 : i < m) (ho : o + i.toNat * z = o') : OpR P w0 D σ L (.indexAddr t x y) (.pointer (some ⟨b, o', none⟩)) :=
  .mk (by simp) fun d ty pos af g w _ => by subst ho; simp [execOp, hx, hy, Instr.indexAt, Instr.sureAddr, asIntOf, run_underlying ht, hz, h0, h1, Addr.add_lit]
theorem y_extract {x : Operand} {i : Nat} {vs : Array Value} {v : Value} (hx : ev σ x = .tuple vs) (h : vs[i]? = some v) : OpR P w0 D σ L (.extract x i) v :=
  .mk (by simp) fun d ty pos af g w _ => by simp [execOp, hx, Instr.extract, h]
theorem y_makeFunc {fn : Fn} {first captured : Array Operand} {a b : Array Value} (ha : first.map (ev σ) = a) (hb : captured.map (ev σ) = b) : OpR P w0 D σ L (.makeFunc fn first captured) (.func fn a b) :=
  .mk (by simp) fun d ty pos af g w _ => by subst ha; subst hb; simp [execOp, Instr.makeFunc]
theorem y_nilP {x : Operand} {a : Addr} (hx : ev σ x = .pointer (some a)) : OpR P w0 D σ L (.nilCheck x) (.pointer (some a)) :=
  .mk (by simp) fun d ty pos af g w _ => by simp [execOp, hx]
theorem y_nilF {x : Operand} {f : Nat} {a b : Array Value} (hx : ev σ x = .func (.func f) a b) : OpR P w0 D σ L (.nilCheck x) (.func (.func f) a b) :=
  .mk (by simp) fun d ty pos af g w _ => by simp [execOp, hx]
theorem y_build {t : TypeId} {ps : Array (Nat × Operand)} {vs : Array Value} (h : ∀ w, (Instr.build t (ps.map fun (i, x) => (i, ev σ x))).run P w = .ok (.agg vs) w) : OpR P w0 D σ L (.build t ps) (.agg vs) :=
  .mk (by simp) fun d ty pos af g w _ => by simp [execOp, h]
theorem y_field {t : TypeId} {x : Operand} {i : Nat} {v : Value} (h : ∀ w, (Instr.field t (ev σ x) i).run P w = .ok v w) : OpR P w0 D σ L (.field t x i) v :=
  .mk (by simp) fun d ty pos af g w _ => by simp [execOp, h]
theorem y_index {t : TypeId} {x y : Operand} {v : Value} (h : ∀ w, (Instr.index t (ev σ x) (ev σ y)).run P w = .ok v w) : OpR P w0 D σ L (.index t x y) v :=
  .mk (by simp) fun d ty pos af g w _ => by simp [execOp, h]
theorem y_slice {t : TypeId} {x : Operand} {lo hi mx : Option Operand} {v : Value} (h : ∀ w, (Instr.sliceAt t (ev σ x) (lo.map (ev σ)) (hi.map (ev σ)) (mx.map (ev σ))).run P w = .ok v w) : OpR P w0 D σ L (.slice t x lo hi mx) v :=
  .mk (by simp) fun d ty pos af g w _ => by simp [execOp, h]
theorem y_min {t u : TypeId} {x y : Operand} {k : IntKind} {a b c : Int} (hx : ev σ x = .int k a) (hy : ev σ y = .int k b) (h : (if b < a then b else a) = c) : OpR P w0 D σ L (.call { callee := .builtin .min, args := #[x, y], argTypes := #[t, u] }) (.int k c) :=
  .mk (by simp) fun d ty pos af g w _ => by subst h; simp [execOp, resolve, invoke, builtin, Builtin.min_, Builtin.min2, hx, hy]
theorem y_max {t u : TypeId} {x y : Operand} {k : IntKind} {a b c : Int} (hx : ev σ x = .int k a) (hy : ev σ y = .int k b) (h : (if a < b then b else a) = c) : OpR P w0 D σ L (.call { callee := .builtin .max, args := #[x, y], argTypes := #[t, u] }) (.int k c) :=
  .mk (by simp) fun d ty pos af g w _ => by subst h; simp [execOp, resolve, invoke, builtin, Builtin.max_, Builtin.max2, hx, hy]

/-! ### Calls whose value is known ahead, and that leave at most new blocks -/
/-- The contract of such a function. -/
def Pure (P : Program) (f : Nat) (args : Array Value) (w : World) (v : Value) : Prop := Calls P f args w (fun e w' => e = .returned v ∧ SH w [] [] w')

theorem y_call {f : Nat} {as : Array Operand} {ts : Array TypeId} {args : Array Value} {v : Value} (hc : ∀ args w, (callFunc f args).run P w = .ok (.enter f args) w) (ha : as.map (ev σ) = args) (h : ∀ w, SH w0 D L w → Pure P f args w v) :
    OpR P w0 D σ L (.call { callee := .value (.func f), args := as, argTypes := ts }) v := fun d ty pos af g => ⟨by simp, fun w hs => by
  have : (execOp (ev σ) ⟨d, .call { callee := .value (.func f), args := as, argTypes := ts }, ty, pos, af, g⟩).run P w = .ok (.enter f args) w := by
    subst ha
    simp [execOp, resolve, Deferred.ofValue, invoke, ev, hc]
  rw [this]
  exact ⟨rfl, h w hs⟩⟩

theorem y_callV {x : Operand} {f : Nat} {as : Array Operand} {ts : Array TypeId} {args cap args' : Array Value} {v : Value} (hx : ev σ x = .func (.func f) #[] cap) (hc : ∀ args w, (callFunc f args).run P w = .ok (.enter f args) w) (ha : as.map (ev σ) = args)
    (ha' : args ++ cap = args') (h : ∀ w, SH w0 D L w → Pure P f args' w v) : OpR P w0 D σ L (.call { callee := .value x, args := as, argTypes := ts }) v := fun d ty pos af g => ⟨by simp, fun w hs => by
  have : (execOp (ev σ) ⟨d, .call { callee := .value x, args := as, argTypes := ts }, ty, pos, af, g⟩).run P w = .ok (.enter f args') w := by
    subst ha; subst ha'
    simp [execOp, resolve, Deferred.ofValue, invoke, hx, hc]
  rw [this]
  exact ⟨rfl, h w hs⟩⟩
end
end Go.Proofs.Ytldkjjnjdjfipaa
