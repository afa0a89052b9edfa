/- Numbers as the model has them, and Lean's own; what lies in cells as lists. It states nothing of the program. -/
import Derived.Test.YtldkjjnjdjfipaaEff
namespace Go.Proofs.Ytldkjjnjdjfipaa
open Go Go.RowKit
set_option linter.unusedVariables false
set_option linter.unusedSimpArgs false

theorem wI {a c : Int} (h : a = c) (h1 : -9223372036854775808 ≤ c) (h2 : c < 9223372036854775808) : IntKind.i64.wrap a = c := by
  rw [IntKind.wrap_i64]; omega
theorem wU {a c : Int} (h : a = c) (h1 : 0 ≤ c) (h2 : c < 18446744073709551616) : IntKind.u64.wrap a = c := by
  rw [IntKind.wrap_u64]; omega

/-! ### UInt64 -/
theorem bv_u (a : UInt64) : BitVec.ofInt 64 (a.toNat : Int) = a.toBitVec := by
  apply BitVec.eq_of_toNat_eq
  rw [BitVec.toNat_ofInt]
  have := a.toBitVec.isLt
  simp only [UInt64.toNat_toBitVec] at *
  have h := UInt64.toNat_lt a
  omega
theorem wrap_bv (x : BitVec 64) : IntKind.u64.wrap (x.toNat : Int) = (x.toNat : Int) := by
  rw [IntKind.wrap_u64]
  have := x.isLt
  omega
theorem u_add (a b : UInt64) : IntKind.u64.wrap ((a.toNat : Int) + (b.toNat : Int)) = ((a + b).toNat : Int) := by
  rw [IntKind.wrap_u64, UInt64.toNat_add]; omega
theorem u_sub (a b : UInt64) : IntKind.u64.wrap ((a.toNat : Int) - (b.toNat : Int)) = ((a - b).toNat : Int) := by
  rw [IntKind.wrap_u64, UInt64.toNat_sub]
  have h1 := UInt64.toNat_lt a
  have h2 := UInt64.toNat_lt b
  omega
theorem u_mul (a b : UInt64) : IntKind.u64.wrap ((a.toNat : Int) * (b.toNat : Int)) = ((a * b).toNat : Int) := by
  rw [IntKind.wrap_u64, UInt64.toNat_mul, ← Int.natCast_mul]
  omega
theorem u_and (a b : UInt64) : IntKind.u64.wrap ((BitVec.ofInt IntKind.u64.bits (a.toNat : Int) &&& BitVec.ofInt IntKind.u64.bits (b.toNat : Int)).toNat : Int) = ((a &&& b).toNat : Int) := by
  show IntKind.u64.wrap ((BitVec.ofInt 64 (a.toNat : Int) &&& BitVec.ofInt 64 (b.toNat : Int)).toNat : Int) = _
  rw [bv_u, bv_u, wrap_bv]; rfl
theorem u_or (a b : UInt64) : IntKind.u64.wrap ((BitVec.ofInt IntKind.u64.bits (a.toNat : Int) ||| BitVec.ofInt IntKind.u64.bits (b.toNat : Int)).toNat : Int) = ((a ||| b).toNat : Int) := by
  show IntKind.u64.wrap ((BitVec.ofInt 64 (a.toNat : Int) ||| BitVec.ofInt 64 (b.toNat : Int)).toNat : Int) = _
  rw [bv_u, bv_u, wrap_bv]; rfl
theorem u_xor (a b : UInt64) : IntKind.u64.wrap ((BitVec.ofInt IntKind.u64.bits (a.toNat : Int) ^^^ BitVec.ofInt IntKind.u64.bits (b.toNat : Int)).toNat : Int) = ((a ^^^ b).toNat : Int) := by
  show IntKind.u64.wrap ((BitVec.ofInt 64 (a.toNat : Int) ^^^ BitVec.ofInt 64 (b.toNat : Int)).toNat : Int) = _
  rw [bv_u, bv_u, wrap_bv]; rfl
theorem u_andNot (a b : UInt64) : IntKind.u64.wrap ((BitVec.ofInt IntKind.u64.bits (a.toNat : Int) &&& ~~~ BitVec.ofInt IntKind.u64.bits (b.toNat : Int)).toNat : Int) = ((a &&& ~~~b).toNat : Int) := by
  show IntKind.u64.wrap ((BitVec.ofInt 64 (a.toNat : Int) &&& ~~~ BitVec.ofInt 64 (b.toNat : Int)).toNat : Int) = _
  rw [bv_u, bv_u, wrap_bv]; rfl
theorem u_compl (a : UInt64) : IntKind.u64.wrap ((BitVec.ofInt IntKind.u64.bits (if IntKind.u64.signed then -1 else IntKind.u64.max) ^^^ BitVec.ofInt IntKind.u64.bits (a.toNat : Int)).toNat : Int) = ((~~~a).toNat : Int) := by
  have h : BitVec.ofInt IntKind.u64.bits (if IntKind.u64.signed then -1 else IntKind.u64.max) = BitVec.allOnes 64 := by
    show BitVec.ofInt 64 (if false = true then -1 else IntKind.u64.max) = BitVec.allOnes 64
    decide
  rw [h]
  show IntKind.u64.wrap ((BitVec.allOnes 64 ^^^ BitVec.ofInt 64 (a.toNat : Int)).toNat : Int) = _
  rw [bv_u, wrap_bv, BitVec.allOnes_xor]
  rfl
theorem u_neg (a : UInt64) : IntKind.u64.wrap (0 - (a.toNat : Int)) = ((-a).toNat : Int) := by
  rw [IntKind.wrap_u64, UInt64.toNat_neg]
  have h1 := UInt64.toNat_lt a
  simp only [UInt64.size]
  omega
theorem u_lit (n : Nat) (h : n < 18446744073709551616) : ((UInt64.ofNat n).toNat : Int) = (n : Int) := by
  rw [UInt64.toNat_ofNat_of_lt' h]
theorem u_addL (a : UInt64) (n : Nat) (h : n < 18446744073709551616) : IntKind.u64.wrap ((a.toNat : Int) + (n : Int)) = ((a + UInt64.ofNat n).toNat : Int) := by rw [← u_add, u_lit n h]
theorem u_andL (a : UInt64) (n : Nat) (h : n < 18446744073709551616) : IntKind.u64.wrap ((BitVec.ofInt IntKind.u64.bits (a.toNat : Int) &&& BitVec.ofInt IntKind.u64.bits (n : Int)).toNat : Int) = ((a &&& UInt64.ofNat n).toNat : Int) := by rw [← u_and, u_lit n h]
theorem u_orL (a : UInt64) (n : Nat) (h : n < 18446744073709551616) : IntKind.u64.wrap ((BitVec.ofInt IntKind.u64.bits (a.toNat : Int) ||| BitVec.ofInt IntKind.u64.bits (n : Int)).toNat : Int) = ((a ||| UInt64.ofNat n).toNat : Int) := by rw [← u_or, u_lit n h]
theorem u_xorL (a : UInt64) (n : Nat) (h : n < 18446744073709551616) : IntKind.u64.wrap ((BitVec.ofInt IntKind.u64.bits (a.toNat : Int) ^^^ BitVec.ofInt IntKind.u64.bits (n : Int)).toNat : Int) = ((a ^^^ UInt64.ofNat n).toNat : Int) := by rw [← u_xor, u_lit n h]
theorem u_shr (a : UInt64) (n : Nat) (h : n < 64) : (a.toNat : Int) / 2 ^ min (n : Int).toNat IntKind.u64.bits = ((a >>> UInt64.ofNat n).toNat : Int) := by
  have e : min (n : Int).toNat IntKind.u64.bits = n := by
    show min (n : Int).toNat 64 = n
    omega
  rw [e, UInt64.toNat_shiftRight]
  have h2 : (UInt64.ofNat n).toNat % 64 = n := by rw [UInt64.toNat_ofNat_of_lt' (by simp only [UInt64.size]; omega)]; omega
  rw [h2, Nat.shiftRight_eq_div_pow]
  simp
theorem u_eql (a b : UInt64) : decide ((a.toNat : Int) = (b.toNat : Int)) = decide (a = b) := by
  simp only [decide_eq_decide]
  constructor
  · intro h; exact UInt64.toNat_inj.1 (by omega)
  · intro h; rw [h]
theorem u_neq (a b : UInt64) : decide ((a.toNat : Int) ≠ (b.toNat : Int)) = decide (a ≠ b) := by
  have := u_eql a b
  simp only [decide_eq_decide] at *
  exact not_congr this
theorem u_eqlL (a : UInt64) (n : Nat) (h : n < 18446744073709551616) : decide ((a.toNat : Int) = (n : Int)) = decide (a = UInt64.ofNat n) := by rw [← u_eql, u_lit n h]
theorem u_neqL (a : UInt64) (n : Nat) (h : n < 18446744073709551616) : decide ((a.toNat : Int) ≠ (n : Int)) = decide (a ≠ UInt64.ofNat n) := by rw [← u_neq, u_lit n h]
theorem u_conv (a : UInt64) : IntKind.u64.wrap (a.toNat : Int) = (a.toNat : Int) := by
  rw [IntKind.wrap_u64]
  have := UInt64.toNat_lt a
  omega

/-! ### Int64 -/
theorem bv_i (a : Int64) : BitVec.ofInt 64 a.toInt = a.toBitVec := BitVec.ofInt_toInt
theorem wrap_bvi (x : BitVec 64) : IntKind.i64.wrap (x.toNat : Int) = x.toInt := by
  rw [IntKind.wrap_i64, BitVec.toInt_eq_toNat_cond]
  have := x.isLt
  split <;> omega
theorem i_bd (a : Int64) : -9223372036854775808 ≤ a.toInt ∧ a.toInt < 9223372036854775808 := ⟨Int64.le_toInt a, Int64.toInt_lt a⟩
theorem bmod_wrap (n : Int) : IntKind.i64.wrap n = n.bmod 18446744073709551616 := by
  rw [IntKind.wrap_i64, Int.bmod_def]
  split <;> omega
theorem i_add (a b : Int64) : IntKind.i64.wrap (a.toInt + b.toInt) = (a + b).toInt := by rw [bmod_wrap, Int64.toInt_add]
theorem i_sub (a b : Int64) : IntKind.i64.wrap (a.toInt - b.toInt) = (a - b).toInt := by rw [bmod_wrap, Int64.toInt_sub]
theorem i_mul (a b : Int64) : IntKind.i64.wrap (a.toInt * b.toInt) = (a * b).toInt := by rw [bmod_wrap, Int64.toInt_mul]
theorem i_neg (a : Int64) : IntKind.i64.wrap (0 - a.toInt) = (-a).toInt := by rw [bmod_wrap, Int64.toInt_neg]; congr 1; omega
theorem i_and (a b : Int64) : IntKind.i64.wrap ((BitVec.ofInt IntKind.i64.bits a.toInt &&& BitVec.ofInt IntKind.i64.bits b.toInt).toNat : Int) = (a &&& b).toInt := by
  show IntKind.i64.wrap ((BitVec.ofInt 64 a.toInt &&& BitVec.ofInt 64 b.toInt).toNat : Int) = _
  rw [bv_i, bv_i, wrap_bvi]; rfl
theorem i_or (a b : Int64) : IntKind.i64.wrap ((BitVec.ofInt IntKind.i64.bits a.toInt ||| BitVec.ofInt IntKind.i64.bits b.toInt).toNat : Int) = (a ||| b).toInt := by
  show IntKind.i64.wrap ((BitVec.ofInt 64 a.toInt ||| BitVec.ofInt 64 b.toInt).toNat : Int) = _
  rw [bv_i, bv_i, wrap_bvi]; rfl
theorem i_xor (a b : Int64) : IntKind.i64.wrap ((BitVec.ofInt IntKind.i64.bits a.toInt ^^^ BitVec.ofInt IntKind.i64.bits b.toInt).toNat : Int) = (a ^^^ b).toInt := by
  show IntKind.i64.wrap ((BitVec.ofInt 64 a.toInt ^^^ BitVec.ofInt 64 b.toInt).toNat : Int) = _
  rw [bv_i, bv_i, wrap_bvi]; rfl
theorem i_conv (a : Int64) : IntKind.i64.wrap a.toInt = a.toInt := by
  have := i_bd a
  exact wI rfl this.1 this.2
theorem iu_conv (a : Int64) : IntKind.u64.wrap a.toInt = (a.toUInt64.toNat : Int) := by
  rw [IntKind.wrap_u64]
  have h : a.toInt = a.toBitVec.toInt := rfl
  have h2 : a.toUInt64.toNat = a.toBitVec.toNat := rfl
  rw [h, h2, BitVec.toInt_eq_toNat_cond]
  have := a.toBitVec.isLt
  split <;> omega
theorem ui_conv (a : UInt64) : IntKind.i64.wrap (a.toNat : Int) = a.toInt64.toInt := by
  have h : a.toInt64.toInt = a.toBitVec.toInt := rfl
  have h2 : a.toNat = a.toBitVec.toNat := rfl
  rw [h, h2, wrap_bvi]
theorem i_lit (n : Nat) (h : n < 9223372036854775808) : (Int64.ofNat n).toInt = (n : Int) := Int64.toInt_ofNat_of_lt h
theorem i_eql (a b : Int64) : decide (a.toInt = b.toInt) = decide (a = b) := by simp only [decide_eq_decide]; exact Int64.toInt_inj
theorem i_neq (a b : Int64) : decide (a.toInt ≠ b.toInt) = decide (a ≠ b) := by simp only [decide_eq_decide]; exact not_congr Int64.toInt_inj
theorem i_lss (a b : Int64) : decide (a.toInt < b.toInt) = decide (a < b) := by simp only [decide_eq_decide]; exact Int64.lt_iff_toInt_lt.symm
theorem i_leq (a b : Int64) : decide (a.toInt ≤ b.toInt) = decide (a ≤ b) := by simp only [decide_eq_decide]; exact Int64.le_iff_toInt_le.symm
theorem i_eqlL (a : Int64) (n : Nat) (h : n < 9223372036854775808) : decide (a.toInt = (n : Int)) = decide (a = Int64.ofNat n) := by rw [← i_eql, i_lit n h]
theorem i_neqL (a : Int64) (n : Nat) (h : n < 9223372036854775808) : decide (a.toInt ≠ (n : Int)) = decide (a ≠ Int64.ofNat n) := by rw [← i_neq, i_lit n h]

/-! ### small naturals as int -/
theorem n_quo (a b : Nat) (hb : 0 < b) (h : (a : Int) < 9223372036854775808) : IntKind.i64.wrap ((a : Int).tdiv (b : Int)) = ((a / b : Nat) : Int) := by
  have e : (a : Int).tdiv (b : Int) = ((a / b : Nat) : Int) := by rw [Int.ofNat_tdiv]
  have : a / b ≤ a := Nat.div_le_self a b
  generalize a / b = c at *
  exact wI e (by omega) (by omega)
theorem n_rem (a b : Nat) (hb : 0 < b) : (a : Int).tmod (b : Int) = ((a % b : Nat) : Int) := by rw [Int.ofNat_tmod]

/-! ### lists in cells -/
section
variable {α : Type} {enc : α → List Value} {z : Nat}
theorem fl_len (hz : ∀ x, (enc x).length = z) (xs : List α) : (xs.flatMap enc).length = xs.length * z := by
  induction xs with
  | nil => simp
  | cons x xs ih => simp [ih, hz, Nat.add_mul, Nat.add_comm]
theorem fl_app (xs ys : List α) : (xs ++ ys).flatMap enc = xs.flatMap enc ++ ys.flatMap enc := List.flatMap_append
theorem fl_drop (hz : ∀ x, (enc x).length = z) (xs : List α) (i : Nat) : (xs.flatMap enc).drop (i * z) = (xs.drop i).flatMap enc := by
  induction xs generalizing i with
  | nil => simp
  | cons x xs ih =>
    cases i with
    | zero => simp
    | succ i =>
      rw [List.flatMap_cons, List.drop_succ_cons, ← ih i]
      have e : (i + 1) * z = (enc x).length + i * z := by rw [hz, Nat.add_mul, Nat.one_mul, Nat.add_comm]
      rw [e, List.drop_append, List.drop_eq_nil_of_le (by omega), List.nil_append]
      congr 1
      omega
theorem fl_take (hz : ∀ x, (enc x).length = z) (xs : List α) (i : Nat) : (xs.flatMap enc).take (i * z) = (xs.take i).flatMap enc := by
  induction xs generalizing i with
  | nil => simp
  | cons x xs ih =>
    cases i with
    | zero => simp
    | succ i =>
      rw [List.flatMap_cons, List.take_succ_cons, List.flatMap_cons, ← ih i]
      have e : (i + 1) * z = (enc x).length + i * z := by rw [hz, Nat.add_mul, Nat.one_mul, Nat.add_comm]
      rw [e, List.take_append, List.take_of_length_le (by omega)]
      congr 2
      omega
theorem fl_getN [Inhabited α] (hz : ∀ x, (enc x).length = z) (xs : List α) (i : Nat) (h : i < xs.length) : ((xs.flatMap enc).drop (i * z)).take (enc (xs.getD i default)).length = enc (xs.getD i default) := by
  rw [fl_drop hz, List.drop_eq_getElem_cons h, List.flatMap_cons, List.getD_eq_getElem?_getD, List.getElem?_eq_getElem h]
  exact List.take_left
theorem fl_get1 [Inhabited α] {f : Nat} {v : Value} (hz : ∀ x, (enc x).length = z) (xs : List α) (i : Nat) (h : i < xs.length) (hf : (enc (xs.getD i default))[f]? = some v) : (xs.flatMap enc)[i * z + f]? = some v := by
  have h2 := fl_getN hz xs i h
  have hlt : f < (enc (xs.getD i default)).length := (List.getElem?_eq_some_iff.1 hf).1
  rw [← h2, List.getElem?_take, if_pos hlt, List.getElem?_drop] at hf
  exact hf
theorem fl_get0 [Inhabited α] {v : Value} (hz : ∀ x, (enc x).length = z) (xs : List α) (i : Nat) (h : i < xs.length) (hf : (enc (xs.getD i default))[0]? = some v) : (xs.flatMap enc)[i * z]? = some v := fl_get1 hz xs i h hf
theorem fl_one (h1 : ∀ x, (enc x).all Value.oneCell' = true) (xs : List α) : (xs.flatMap enc).all Value.oneCell' = true := by
  rw [List.all_eq_true]
  intro u hu
  obtain ⟨x, _, hx⟩ := List.mem_flatMap.1 hu
  exact List.all_eq_true.1 (h1 x) u hx
/-- one element written -/
theorem fl_set (hz : ∀ x, (enc x).length = z) (xs : List α) (i : Nat) (h : i < xs.length) (y : α) : (xs.flatMap enc).take (i * z) ++ enc y ++ (xs.flatMap enc).drop (i * z + (enc y).length) = (xs.set i y).flatMap enc := by
  have e : i * z + (enc y).length = (i + 1) * z := by rw [hz, Nat.add_mul, Nat.one_mul]
  rw [e, fl_take hz, fl_drop hz, List.set_eq_take_append_cons_drop, if_pos h, List.flatMap_append, List.flatMap_cons, List.append_assoc]
end

section
variable {P : Program} {w0 : World} {D : List Nat} {n : Nat} {r : Option Nat} {ds : List Nat} {σ : Fr} {L M : List Res}
theorem ev0 : #[].map (ev σ) = #[] := by simp
theorem ev1 {x : Operand} {v : Value} (h : ev σ x = v) : #[x].map (ev σ) = #[v] := by simp [h]
theorem ev2 {x y : Operand} {u v : Value} (h1 : ev σ x = u) (h2 : ev σ y = v) : #[x, y].map (ev σ) = #[u, v] := by simp [h1, h2]
theorem ev3 {x y z : Operand} {u v t : Value} (h1 : ev σ x = u) (h2 : ev σ y = v) (h3 : ev σ z = t) : #[x, y, z].map (ev σ) = #[u, v, t] := by simp [h1, h2, h3]
theorem ev4 {x y z a : Operand} {u v t s : Value} (h1 : ev σ x = u) (h2 : ev σ y = v) (h3 : ev σ z = t) (h4 : ev σ a = s) : #[x, y, z, a].map (ev σ) = #[u, v, t, s] := by simp [h1, h2, h3, h4]
theorem ev5 {x y z a b : Operand} {u v t s q : Value} (h1 : ev σ x = u) (h2 : ev σ y = v) (h3 : ev σ z = t) (h4 : ev σ a = s) (h5 : ev σ b = q) : #[x, y, z, a, b].map (ev σ) = #[u, v, t, s, q] := by simp [h1, h2, h3, h4, h5]

/-- parts' values, one by one -/
def EvAll (σ : Fr) : List (Nat × Operand) → List (Nat × Value) → Prop
  | [], [] => True
  | (i, x) :: l, (j, v) :: m => (i = j ∧ ev σ x = v) ∧ EvAll σ l m
  | _, _ => False
theorem ev_all {l : List (Nat × Operand)} {m : List (Nat × Value)} (h : EvAll σ l m) : (l.toArray.map fun (i, x) => (i, ev σ x)) = m.toArray := by
  rw [List.map_toArray]
  congr 1
  induction l generalizing m with
  | nil => cases m with
    | nil => rfl
    | cons => exact h.elim
  | cons p l ih =>
    cases m with
    | nil => obtain ⟨i, x⟩ := p; exact h.elim
    | cons q m =>
      obtain ⟨i, x⟩ := p
      obtain ⟨j, v⟩ := q
      obtain ⟨⟨rfl, rfl⟩, h2⟩ := h
      simp only [List.map_cons]
      rw [ih h2]

theorem evn : EvAll σ [] [] := trivial
theorem evc {i : Nat} {x : Operand} {v : Value} {l : List (Nat × Operand)} {m : List (Nat × Value)} (h : ev σ x = v) (t : EvAll σ l m) : EvAll σ ((i, x) :: l) ((i, v) :: m) := ⟨⟨rfl, h⟩, t⟩
theorem y_buildL {t : TypeId} {l : List (Nat × Operand)} {m : List (Nat × Value)} {vs : Array Value} (he : EvAll σ l m) (h : ∀ w, (Instr.build t m.toArray).run P w = .ok (.agg vs) w) : OpR P w0 D σ L (.build t l.toArray) (.agg vs) :=
  y_build fun w => by rw [ev_all he]; exact h w
theorem y_fieldL {t : TypeId} {x : Operand} {i : Nat} {vs : Array Value} {v : Value} (hx : ev σ x = .agg vs) (h : ∀ w, (Instr.field t (.agg vs) i).run P w = .ok v w) : OpR P w0 D σ L (.field t x i) v :=
  y_field fun w => by rw [hx]; exact h w
theorem e_bsliceL {t e : TypeId} {k : Nat} {ps : List (Nat × Operand)} {m : List (Nat × Value)} {l : List Value} {K : Value → List Res → Prop} {d : Option Tmp} {ty : TypeId} {pos : String} {af : Array Edge} {g : Option (Nat × Bool)}
    (he : EvAll σ ps m) (h : ∀ w, (Instr.buildSlice t k m.toArray).run P w = .ok (.slice (some ⟨w.heap.size, 0, none⟩) k k) (w.alloc (.cells l.toArray e (0, 0))))
    (hK : ∀ b, K (.slice (some ⟨b, 0, none⟩) k k) (cel b e l :: L)) : OpE P w0 D σ L ⟨d, .buildSlice t k ps.toArray, ty, pos, af, g⟩ K :=
  e_bslice (fun w => by rw [ev_all he]; exact h w) hK

theorem celR {b : Nat} {t : TypeId} {l : List Value} (hp : Pick L (cel b t l) M) : ∀ w, SH w0 D L w → Rds w (some ⟨b, 0, none⟩) l := fun w hs j u hj => by
  refine ⟨rfl, ?_⟩
  simp only [aB, aO, Nat.zero_add]
  rw [cel_cell (hs.get hp) j]
  exact hj
theorem rvC {w : World} {a : Tmp} {t : TypeId} {b o : Nat} {vs : List Value} (hx : σ a = .pointer (some ⟨b, o, none⟩)) (ha : ∀ w, (isAgg t).run P w = .ok true w) (hz : ∀ w, (sizeOf t).run P w = .ok vs.length w) (h : ∀ w', SH w D M w' → CellsAt w' b o vs) :
    ∀ w', SH w D M w' → (evRV σ (.cell a t)).run P w' = .ok (.agg vs.toArray) w' := fun w' hs => by simp [evRV, hx, asAddr, run_loadAgg ha hz (h w' hs)]
end
end Go.Proofs.Ytldkjjnjdjfipaa
