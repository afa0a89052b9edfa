/- What single operations do to memory. It states nothing of the program. -/
import Derived.Test.YtldkjjnjdjfipaaYl2
import Derived.Maps.AppendAt
namespace Go.Proofs.Ytldkjjnjdjfipaa
open Go Go.RowKit
set_option linter.unusedVariables false
set_option linter.unusedSimpArgs false

/-! ### Slices as they lie -/
def aB (a : Option Addr) : Nat := match a with | some p => p.block | none => 0
def aO (a : Option Addr) : Nat := match a with | some p => p.off | none => 0

/-- From a slice's head on lie these cells. -/
def Rds (w : World) (a : Option Addr) (l : List Value) : Prop := ∀ j u, l[j]? = some u → a = some ⟨aB a, aO a, none⟩ ∧ w.cell? ⟨aB a, aO a + j, none⟩ = some u

theorem Rds.nil (w : World) (a : Option Addr) : Rds w a [] := fun j u h => by simp at h
theorem Rds.cells {w : World} {a : Option Addr} {l vs : List Value} (h : Rds w a l) (k : Nat) (hv : (l.drop k).take vs.length = vs) : CellsAt w (aB a) (aO a + k) vs := fun j v hj => by
  have hlt : j < vs.length := (List.getElem?_eq_some_iff.1 hj).1
  rw [← hv, List.getElem?_take, if_pos hlt, List.getElem?_drop] at hj
  have := (h (k + j) v hj).2
  rw [Nat.add_assoc]
  exact this
theorem Rds.head {w : World} {a : Option Addr} {l : List Value} (h : Rds w a l) (hl : 0 < l.length) : a = some ⟨aB a, aO a, none⟩ := (h 0 l[0] (by simp [hl])).1
theorem Rds.below {w w' : World} {a : Option Addr} {l : List Value} (h : Rds w a l) (hb : Below w.heap.size w w') : Rds w' a l := fun j u hj => by
  have := h j u hj
  refine ⟨this.1, ?_⟩
  rw [hb.cell (p := ⟨aB a, aO a + j, none⟩) (World.block_lt_of_cell? w ⟨aB a, aO a + j, none⟩ this.2)]
  exact this.2
theorem Rds.take {w : World} {a : Option Addr} {l : List Value} (h : Rds w a l) (k : Nat) : Rds w a (l.take k) := fun j u hj => by
  rw [List.getElem?_take] at hj
  split at hj
  · exact h j u hj
  · cases hj
/-- the slice from 'lo' on -/
def subA (a : Option Addr) (cap lo sz : Nat) : Option Addr := if cap = lo then a else a.map (·.add (lo * sz))
theorem Rds.sub {w : World} {a : Option Addr} {l : List Value} (h : Rds w a l) {cap lo hi sz : Nat} (hc : hi ≤ cap) : Rds w (subA a cap lo sz) ((l.drop (lo * sz)).take ((hi - lo) * sz)) := fun j u hj => by
  rw [List.getElem?_take] at hj
  split at hj
  · rename_i hlt
    rw [List.getElem?_drop] at hj
    have hh := h _ u hj
    have hne : cap ≠ lo := fun e => by
      have : hi - lo = 0 := by omega
      rw [this] at hlt
      omega
    unfold subA
    rw [if_neg hne]
    generalize hb : aB a = b at *
    generalize ho : aO a = o at *
    rw [hh.1]
    have e : (Option.map (fun x => x.add (lo * sz)) (some (⟨b, o, none⟩ : Addr))) = some ⟨b, o + lo * sz, none⟩ := by simp [Addr.add_lit]
    rw [e]
    refine ⟨rfl, ?_⟩
    simp only [aB, aO]
    have := hh.2
    rwa [Nat.add_assoc]
  · cases hj

/-- A slice that the call owns: nil, or at the head of a block of its own. -/
def osl (a : Option Addr) (cap n sz : Nat) (t : TypeId) (l : List Value) : Res :=
  ⟨(Value.slice a n cap).ownBlock.toList, fun w => w.ownsRow 0 t sz (.slice a n cap) n l, fun w w' h hw => by
    refine ⟨hw.1, ?_⟩
    rcases hw.2 with hn | ⟨g, cap', cur, hv, hb, hg, rest⟩
    · exact .inl hn
    · refine .inr ⟨g, cap', cur, hv, hb, ?_, rest⟩
      rw [h g (by rw [hv]; simp [Value.ownBlock])]
      exact hg⟩

theorem osl_rds {a : Option Addr} {cap n sz : Nat} {t : TypeId} {l : List Value} {w : World} (h : (osl a cap n sz t l).ok w) : Rds w a l := fun j u hj => by
  rcases h.2 with ⟨hv, hn⟩ | ⟨g, cap', cur, hv, hb, hg, hle, hm, hs, ht⟩
  · have hl := h.1
    rw [hn, Nat.zero_mul] at hl
    rw [List.eq_nil_of_length_eq_zero hl] at hj
    simp at hj
  · injection hv with e1 e2 e3
    subst e1
    refine ⟨rfl, ?_⟩
    simp only [aB, aO, Nat.zero_add]
    rw [cell_of_row w g j cur t (0, 0) hg]
    rw [← ht, List.getElem?_take] at hj
    split at hj
    · simpa using hj
    · cases hj

section
variable {P : Program} {w0 : World} {D : List Nat} {n : Nat} {r : Option Nat} {ds : List Nat} {σ : Fr} {L M : List Res}

theorem oslR {a : Option Addr} {cap m sz : Nat} {t : TypeId} {l : List Value} (hp : Pick L (osl a cap m sz t l) M) : ∀ w, SH w0 D L w → Rds w a l := fun w hs => osl_rds (hs.get hp)
theorem osl_len {a : Option Addr} {cap m sz : Nat} {t : TypeId} {l : List Value} {w : World} (h : (osl a cap m sz t l).ok w) : l.length = m * sz := h.1
theorem osl_cap {a : Option Addr} {cap m sz : Nat} {t : TypeId} {l : List Value} {w : World} (h : (osl a cap m sz t l).ok w) : m ≤ cap := by
  rcases h.2 with ⟨hv, hn⟩ | ⟨g, cap', cur, hv, hb, hg, hle, hm, hs, ht⟩
  · omega
  · injection hv with e1 e2 e3
    omega
theorem oldR {a : Option Addr} {l : List Value} (h : Rds w0 a l) : ∀ w, SH w0 [] L w → Rds w a l := fun w hs => h.below hs.below
theorem oldRD {a : Option Addr} {l : List Value} (h : Rds w0 a l) (hD : aB a ∉ D) : ∀ w, SH w0 D L w → Rds w a l := fun w hs j u hj => by
  have := h j u hj
  exact ⟨this.1, (old1 this.2 hD w hs)⟩

theorem y_idx {t : TypeId} {x y : Operand} {a : Option Addr} {l : List Value} {m c z : Nat} {k : IntKind} {i : Int} {e : TypeId} {o : Nat} (hx : ev σ x = .slice a m c) (hy : ev σ y = .int k i) (ht : P.underlying t = some (.slice e)) (hz : ∀ w, (sizeOf e).run P w = .ok z w)
    (hr : ∀ w, SH w0 D L w → Rds w a l) (hl : l.length = m * z) (hz0 : 0 < z) (h0 : 0 ≤ i) (h1 : i < m) (ho : i.toNat * z = o) : OpR P w0 D σ L (.indexAddr t x y) (.pointer (some ⟨aB a, aO a + o, none⟩)) :=
  .mk (by simp) fun d ty pos af g w hs => by
    have hpos : 0 < l.length := by
      rw [hl]
      exact Nat.mul_pos (by omega) hz0
    have ha := (hr w hs).head hpos
    subst ho
    generalize hb : aB a = b at *
    generalize hoo : aO a = oo at *
    subst ha
    simp [execOp, hx, hy, Instr.indexAt, asIntOf, run_underlying ht, hz, h0, h1, Addr.add_lit]

theorem rd1 {a : Option Addr} {l : List Value} {k : Nat} {v : Value} (hr : ∀ w, SH w0 D L w → Rds w a l) (hv : l[k]? = some v) : ∀ w, SH w0 D L w → w.cell? ⟨aB a, aO a + k, none⟩ = some v := fun w hs => (hr w hs k v hv).2
theorem rdN {a : Option Addr} {l vs : List Value} {k : Nat} (hr : ∀ w, SH w0 D L w → Rds w a l) (hv : (l.drop k).take vs.length = vs) : ∀ w, SH w0 D L w → CellsAt w (aB a) (aO a + k) vs := fun w hs => (hr w hs).cells k hv

/-! ### Reslicing -/
theorem y_sliceH {t : TypeId} {x y : Operand} {a : Option Addr} {m c : Nat} {k : IntKind} {i : Int} {e : TypeId} {h' : Nat} {z : Nat} (hx : ev σ x = .slice a m c) (hy : ev σ y = .int k i) (ht : P.underlying t = some (.slice e)) (hz : ∀ w, (sizeOf e).run P w = .ok z w)
    (h0 : 0 ≤ i) (h1 : i ≤ c) (hh : i.toNat = h') : OpR P w0 D σ L (.slice t x none (some y) none) (.slice a h' c) :=
  y_slice fun w => by
    have e1 : (i.toNat : Int) = i := Int.toNat_of_nonneg h0
    subst hh
    simp [hx, hy, Instr.sliceAt, Instr.slice, run_underlying ht, Instr.sliceBounds, Instr.sliceBound, asIntOf, hz, h0, h1]
    cases a <;> simp [Addr.add_zero']
theorem y_sliceL {t : TypeId} {x y : Operand} {a : Option Addr} {m c : Nat} {k : IntKind} {i : Int} {e : TypeId} {l' : Nat} {z : Nat} (hx : ev σ x = .slice a m c) (hy : ev σ y = .int k i) (ht : P.underlying t = some (.slice e)) (hz : ∀ w, (sizeOf e).run P w = .ok z w)
    (h0 : 0 ≤ i) (h1 : i ≤ m) (hh : i.toNat = l') : OpR P w0 D σ L (.slice t x (some y) none none) (.slice (subA a c l' z) (m - l') (c - l')) :=
  y_slice fun w => by
    have e1 : (i.toNat : Int) = i := Int.toNat_of_nonneg h0
    subst hh
    simp [hx, hy, Instr.sliceAt, Instr.slice, run_underlying ht, Instr.sliceBounds, Instr.sliceBound, asIntOf, hz, h0, h1, subA]
theorem y_sliceLH {t : TypeId} {x y u : Operand} {a : Option Addr} {m c : Nat} {k k2 : IntKind} {i j : Int} {e : TypeId} {l' h' : Nat} {z : Nat} (hx : ev σ x = .slice a m c) (hy : ev σ y = .int k i) (hu : ev σ u = .int k2 j) (ht : P.underlying t = some (.slice e)) (hz : ∀ w, (sizeOf e).run P w = .ok z w)
    (h0 : 0 ≤ i) (h1 : i ≤ j) (h2 : j ≤ c) (hl : i.toNat = l') (hh : j.toNat = h') : OpR P w0 D σ L (.slice t x (some y) (some u) none) (.slice (subA a c l' z) (h' - l') (c - l')) :=
  y_slice fun w => by
    have e1 : (i.toNat : Int) = i := Int.toNat_of_nonneg h0
    have e2 : (j.toNat : Int) = j := Int.toNat_of_nonneg (by omega)
    subst hl; subst hh
    simp [hx, hy, hu, Instr.sliceAt, Instr.slice, run_underlying ht, Instr.sliceBounds, Instr.sliceBound, asIntOf, hz, h0, h1, h2, subA, (by omega : 0 ≤ j), e2]
theorem y_slice0 {t : TypeId} {x : Operand} {a : Option Addr} {m c : Nat} {e : TypeId} {z : Nat} (hx : ev σ x = .slice a m c) (ht : P.underlying t = some (.slice e)) (hz : ∀ w, (sizeOf e).run P w = .ok z w) : OpR P w0 D σ L (.slice t x none none none) (.slice a m c) :=
  y_slice fun w => by
    simp [hx, Instr.sliceAt, Instr.slice, run_underlying ht, Instr.sliceBounds, hz]
    cases a <;> simp [Addr.add_zero']
/-- s[:i:i] -/
theorem y_sliceHM {t : TypeId} {x y u : Operand} {a : Option Addr} {m c : Nat} {k k2 : IntKind} {i j : Int} {e : TypeId} {h' m' : Nat} {z : Nat} (hx : ev σ x = .slice a m c) (hy : ev σ y = .int k i) (hu : ev σ u = .int k2 j) (ht : P.underlying t = some (.slice e)) (hz : ∀ w, (sizeOf e).run P w = .ok z w)
    (h0 : 0 ≤ i) (h1 : i ≤ j) (h2 : j ≤ c) (hl : i.toNat = h') (hh : j.toNat = m') : OpR P w0 D σ L (.slice t x none (some y) (some u)) (.slice a h' m') :=
  y_slice fun w => by
    have e1 : (i.toNat : Int) = i := Int.toNat_of_nonneg h0
    have e2 : (j.toNat : Int) = j := Int.toNat_of_nonneg (by omega)
    subst hl; subst hh
    simp [hx, hy, hu, Instr.sliceAt, Instr.slice, run_underlying ht, Instr.sliceBounds, Instr.sliceBound, asIntOf, hz, h0, h1, h2, (by omega : 0 ≤ j), e2]
    cases a <;> simp [Addr.add_zero']
/-- an array's -/
theorem y_sliceA {t : TypeId} {x : Operand} {b o m : Nat} {e : TypeId} {z : Nat} (hx : ev σ x = .pointer (some ⟨b, o, none⟩)) (ht : P.underlying t = some (.array m e)) (hz : ∀ w, (sizeOf e).run P w = .ok z w) : OpR P w0 D σ L (.slice t x none none none) (.slice (some ⟨b, o, none⟩) m m) :=
  y_slice fun w => by
    simp [hx, Instr.sliceAt, run_underlying ht, Instr.sliceBounds, hz, Instr.sureAddr, Addr.add_zero']

/-! ### New blocks -/
theorem SH.new (w : World) (o : Obj) : SH w [] [blk w.heap.size o] (w.alloc o) :=
  ⟨rfl, rfl, rfl, by simp, fun k hk _ => Below.heap_alloc w o k hk, fun p hp => by simp at hp; subst hp; exact heap_alloc_new w o,
    fun p hp b hb => by simp at hp; subst hp; simp [blk] at hb; subst hb; simp, by simp⟩

theorem OpE.mk {o : Oper} {K : Value → List Res → Prop} (hd : ∀ c, o.op ≠ .defer c) (h : ∀ w, SH w0 D L w → ∃ v w' L', (execOp (ev σ) o).run P w = .ok (.value v) w' ∧ SH w0 D L' w' ∧ K v L') : OpE P w0 D σ L o K :=
  ⟨hd, fun w hs => .inl (h w hs)⟩

theorem s_e {ops : Array Oper} {K : Fr → List Res → Prop} {d : Nat} {op : Op} {ty : TypeId} {pos : String} {af : Array Edge} {l : List Oper} (hd : Nat.blt d n = true)
    (h : OpE P w0 D σ L ⟨some d, op, ty, pos, af, none⟩ (fun v L' => wpL P w0 D n r ds ops K l (upd σ d v) L')) : wpL P w0 D n r ds ops K (⟨some d, op, ty, pos, af, none⟩ :: l) σ L := wpL_e (d := some d) hd h
theorem s_e0 {ops : Array Oper} {K : Fr → List Res → Prop} {op : Op} {ty : TypeId} {pos : String} {af : Array Edge} {l : List Oper}
    (h : OpE P w0 D σ L ⟨none, op, ty, pos, af, none⟩ (fun v L' => wpL P w0 D n r ds ops K l σ L')) : wpL P w0 D n r ds ops K (⟨none, op, ty, pos, af, none⟩ :: l) σ L := wpL_e (d := none) rfl h
theorem s_ge {ops : Array Oper} {K : Fr → List Res → Prop} {d : Nat} {op : Op} {ty : TypeId} {pos : String} {af : Array Edge} {l : List Oper} {j dj : Nat} {o : Oper} {b b' : Bool} (hd : Nat.blt d n = true)
    (hj : ops[j]? = some o) (hdj : o.dst = some dj) (hlt : Nat.blt dj n = true) (hb : σ dj = .bool b') (hbb : b' = b)
    (h : OpE P w0 D σ L ⟨some d, op, ty, pos, af, some (j, b)⟩ (fun v L' => wpL P w0 D n r ds ops K l (upd σ d v) L')) : wpL P w0 D n r ds ops K (⟨some d, op, ty, pos, af, some (j, b)⟩ :: l) σ L :=
  wpL_ge (d := some d) hd hj hdj hlt (hbb ▸ hb) h

theorem e_box {t : TypeId} {x : Operand} {v : Value} {l : List Value} {K : Value → List Res → Prop} {d : Option Tmp} {ty : TypeId} {pos : String} {af : Array Edge} {g : Option (Nat × Bool)} (hx : ev σ x = v) (hl : v.cells = l.toArray)
    (hK : ∀ b, K (.pointer (some ⟨b, 0, none⟩)) (cel b t l :: L)) : OpE P w0 D σ L ⟨d, .box t x, ty, pos, af, g⟩ K :=
  .mk (by simp) fun w hs => ⟨_, w.alloc (.cells l.toArray t (0, 0)), _, by simp [execOp, hx, Instr.box, newVar, newRow, hl], hs.frame0 (SH.new w _), hK w.heap.size⟩

theorem e_alloc {t : TypeId} {v : Value} {l : List Value} {K : Value → List Res → Prop} {d : Option Tmp} {ty : TypeId} {pos : String} {af : Array Edge} {g : Option (Nat × Bool)} (hz : ∀ w, (zeroValue t).run P w = .ok v w) (hl : v.cells = l.toArray)
    (hK : ∀ b, K (.pointer (some ⟨b, 0, none⟩)) (cel b t l :: L)) : OpE P w0 D σ L ⟨d, .alloc t, ty, pos, af, g⟩ K :=
  .mk (by simp) fun w hs => ⟨_, w.alloc (.cells l.toArray t (0, 0)), _, by simp [execOp, Instr.alloc, hz, newVar, newRow, hl], hs.frame0 (SH.new w _), hK w.heap.size⟩

/-- any operation that lays one new block -/
theorem e_new {o : Oper} {t : TypeId} {l : List Value} {f : Nat → Value} {K : Value → List Res → Prop} (hd : ∀ c, o.op ≠ .defer c) (h : ∀ w, (execOp (ev σ) o).run P w = .ok (.value (f w.heap.size)) (w.alloc (.cells l.toArray t (0, 0)))) (hK : ∀ b, K (f b) (cel b t l :: L)) : OpE P w0 D σ L o K :=
  .mk hd fun w hs => ⟨_, _, _, h w, hs.frame0 (SH.new w _), hK w.heap.size⟩

theorem e_bslice {t e : TypeId} {m : Nat} {ps : Array (Nat × Operand)} {l : List Value} {K : Value → List Res → Prop} {d : Option Tmp} {ty : TypeId} {pos : String} {af : Array Edge} {g : Option (Nat × Bool)}
    (h : ∀ w, (Instr.buildSlice t m (ps.map fun (i, x) => (i, ev σ x))).run P w = .ok (.slice (some ⟨w.heap.size, 0, none⟩) m m) (w.alloc (.cells l.toArray e (0, 0))))
    (hK : ∀ b, K (.slice (some ⟨b, 0, none⟩) m m) (cel b e l :: L)) : OpE P w0 D σ L ⟨d, .buildSlice t m ps, ty, pos, af, g⟩ K :=
  e_new (f := fun b => .slice (some ⟨b, 0, none⟩) m m) (by simp) (fun w => by simp [execOp, h]) hK

/-! ### Stores -/
theorem SH.row {b : Nat} {t : TypeId} {l l' : List Value} {w : World} (h : SH w0 D (cel b t l :: L) w) : SH w0 D (cel b t l' :: L) (w.setRow b l'.toArray) := by
  have hb : w.heap[b]? = some (.cells l.toArray t (0, 0)) := h.ok (cel b t l) (by simp)
  have ho := h.own (cel b t l) (by simp) b (by simp [cel, blk])
  refine SH.frame (A := [cel b t l]) (A' := [cel b t l']) h ⟨rfl, rfl, rfl, by simp, fun k hk hkD => setRow_other w b k _ (fun e => hkD (by simp [cel, blk, e])), ?_, ?_, by simp⟩
  · intro p hp
    simp at hp; subst hp
    exact setRow_heap w b l.toArray _ t _ hb
  · intro p hp c hc
    simp at hp; subst hp
    simp [cel, blk] at hc; subst hc
    exact ⟨.inr (by simp [cel, blk]), by simpa using ho.2⟩

theorem run_storeAt {t : TypeId} {b o : Nat} {ty : TypeId} {l vs : List Value} {v : Value} {w : World} (hb : w.heap[b]? = some (.cells l.toArray ty (0, 0))) (hv : v.cells = vs.toArray) (hs : ∀ w, (sizeOf t).run P w = .ok vs.length w) (h1 : ∀ u ∈ vs, u.oneCell' = true) (hfit : o + vs.length ≤ l.length) :
    (storeVar t ⟨b, o, none⟩ v).run P w = .ok () (w.setRow b (l.take o ++ vs ++ l.drop (o + vs.length)).toArray) := by
  have := run_storeCells_at P b o ty vs 0 l.toArray w hb (by simpa using hfit) h1
  simp only [Nat.add_zero] at this
  simp [storeVar, hs, hv, this]

theorem e_store {t : TypeId} {a x : Operand} {b o : Nat} {ty' : TypeId} {l l' vs : List Value} {v : Value} {K : Value → List Res → Prop} {d : Option Tmp} {ty : TypeId} {pos : String} {af : Array Edge} {g : Option (Nat × Bool)}
    (ha : ev σ a = .pointer (some ⟨b, o, none⟩)) (hx : ev σ x = v) (hv : v.cells = vs.toArray) (h1 : vs.all Value.oneCell' = true) (hs : ∀ w, (sizeOf t).run P w = .ok vs.length w) (hp : Pick L (cel b ty' l) M) (hfit : o + vs.length ≤ l.length)
    (hl : l.take o ++ vs ++ l.drop (o + vs.length) = l') (hK : K undef (cel b ty' l' :: M)) : OpE P w0 D σ L ⟨d, .store t a x, ty, pos, af, g⟩ K :=
  ⟨by simp, fun w hw => .inr (.inl (by
    have hw' := hw.pick hp
    have hb : w.heap[b]? = some (.cells l.toArray ty' (0, 0)) := hw'.ok (cel b ty' l) (by simp)
    subst hl
    exact ⟨_, _, by simp [execOp, ha, hx, Instr.storeAt, Instr.sureAddr, run_storeAt hb hv hs (by simpa using h1) hfit], hw'.row, hK⟩))⟩

theorem SH.rowO {a : Option Addr} {cap m sz : Nat} {t : TypeId} {l vs : List Value} {k : Nat} {w : World} (h : SH w0 D (osl a cap m sz t l :: L) w) (h1 : ∀ u ∈ vs, u.oneCell' = true) (hv : 0 < vs.length) (hfit : k + vs.length ≤ l.length) {ty : TypeId} {v : Value} (hvc : v.cells = vs.toArray) (hs : ∀ w, (sizeOf ty).run P w = .ok vs.length w) :
    ∃ w', (storeVar ty ⟨aB a, aO a + k, none⟩ v).run P w = .ok () w' ∧ SH w0 D (osl a cap m sz t (l.take k ++ vs ++ l.drop (k + vs.length)) :: L) w' := by
  have hok : w.ownsRow 0 t sz (.slice a m cap) m l := h.ok (osl a cap m sz t l) (by simp)
  have hown := h.own (osl a cap m sz t l) (by simp)
  have hpos : 0 < m * sz := by rw [← hok.1]; omega
  rcases hok.2 with ⟨hvv, hn⟩ | ⟨g, cap', cur, hvv, hb0, hg, hle, hm, hcs, ht⟩
  · rw [hn] at hpos; omega
  · injection hvv with e1 e2 e3
    subst e1; subst e3
    have hlen := hok.1
    have hcl : l.length ≤ cur.size := by rw [hlen, hcs]; exact Nat.mul_le_mul_right _ hle
    have hcur : (⟨cur.toList⟩ : Array Value) = cur := rfl
    have hr := run_storeAt (P := P) (t := ty) (b := g) (o := k) (ty := t) (l := cur.toList) (vs := vs) (v := v) (w := w) (by simpa using hg) hvc hs h1 (by simp; omega)
    simp only [aB, aO, Nat.zero_add]
    refine ⟨_, hr, ?_⟩
    have hsz : (cur.toList.take k ++ vs ++ cur.toList.drop (k + vs.length)).length = cur.size := by simp; omega
    refine SH.frame (A := [osl (some ⟨g, 0, none⟩) cap m sz t l]) (A' := [osl (some ⟨g, 0, none⟩) cap m sz t (l.take k ++ vs ++ l.drop (k + vs.length))]) h ⟨rfl, rfl, rfl, by simp, fun j hj hjD => setRow_other w g j _ (fun e => hjD (by simp [osl, Value.ownBlock, e])), ?_, ?_, by simp⟩
    · intro p hp
      simp at hp; subst hp
      refine ⟨by simp [← hlen]; omega, .inr ⟨g, cap, (cur.toList.take k ++ vs ++ cur.toList.drop (k + vs.length)).toArray, rfl, Nat.zero_le _, setRow_heap w g cur _ t _ hg, hle, hm, ?_, ?_⟩⟩
      · simp only [List.size_toArray]; rw [hsz, hcs]
      · simp only [List.append_assoc, List.toList_toArray] at *
        show (cur.toList.take k ++ (vs ++ cur.toList.drop (k + vs.length))).take (m * sz) = l.take k ++ (vs ++ l.drop (k + vs.length))
        rw [← ht, List.take_take, Nat.min_eq_left (by omega)]
        rw [List.take_append, List.take_append]
        have h2 : (List.take k cur.toList).length = k := by simp; omega
        rw [h2, List.take_of_length_le (by rw [h2]; omega), List.take_of_length_le (l := vs) (by omega)]
        congr 2
        rw [List.drop_take]
        congr 1
        omega
    · intro p hp c hc
      simp at hp; subst hp
      simp [osl, Value.ownBlock] at hc; subst hc
      exact ⟨.inr (by simp [osl, Value.ownBlock]), by simpa using (hown _ (by simp [osl, Value.ownBlock])).2⟩

theorem e_storeO {t : TypeId} {p x : Operand} {a : Option Addr} {cap m sz k : Nat} {ty' : TypeId} {l l' vs : List Value} {v : Value} {K : Value → List Res → Prop} {d : Option Tmp} {ty : TypeId} {pos : String} {af : Array Edge} {g : Option (Nat × Bool)}
    (ha : ev σ p = .pointer (some ⟨aB a, aO a + k, none⟩)) (hx : ev σ x = v) (hv : v.cells = vs.toArray) (h1 : vs.all Value.oneCell' = true) (h0 : 0 < vs.length) (hs : ∀ w, (sizeOf t).run P w = .ok vs.length w) (hp : Pick L (osl a cap m sz ty' l) M) (hfit : k + vs.length ≤ l.length)
    (hl : l.take k ++ vs ++ l.drop (k + vs.length) = l') (hK : K undef (osl a cap m sz ty' l' :: M)) : OpE P w0 D σ L ⟨d, .store t p x, ty, pos, af, g⟩ K :=
  ⟨by simp, fun w hw => .inr (.inl (by
    obtain ⟨w', hr, hs'⟩ := SH.rowO (P := P) (hw.pick hp) (by simpa using h1) h0 hfit hv hs
    subst hl
    exact ⟨w', _, by simp [execOp, ha, hx, Instr.storeAt, Instr.sureAddr, hr], hs', hK⟩))⟩

/-! ### append -/
/-- What is appended: a slice's cells. -/
def SrcS (w : World) (a : Option Addr) (m sz : Nat) (news : List Value) : Prop := news.length = m * sz ∧ Rds w a news

theorem SH.grow {a a' : Option Addr} {cap cap' m m' sz : Nat} {t : TypeId} {l l' : List Value} {w w' : World} (h : SH w0 D (osl a cap m sz t l :: L) w) (hr : w'.ownsRow 0 t sz (.slice a' m' cap') m' l') (hg : w.grownBy w' (Value.slice a m cap).ownBlock)
    (hb : (Value.slice a' m' cap').ownBlock = (Value.slice a m cap).ownBlock ∨ (Value.slice a' m' cap').ownBlock = some w.heap.size) : SH w0 D (osl a' cap' m' sz t l' :: L) w' := by
  have hown := h.own (osl a cap m sz t l) (by simp)
  refine SH.frame (A := [osl a cap m sz t l]) (A' := [osl a' cap' m' sz t l']) h ⟨hg.os, hg.tape, hg.output, hg.size, fun k hk hkD => hg.block k hk (fun e => hkD ?_), ?_, ?_, by simp⟩
  · simp [osl, ← e]
  · intro p hp
    simp at hp; subst hp
    exact hr
  · intro p hp c hc
    simp at hp; subst hp
    have hlt := (hr.lt c (by simpa [osl] using hc)).2
    refine ⟨?_, hlt⟩
    have hc' : (Value.slice a' m' cap').ownBlock = some c := by simpa [osl] using hc
    rcases hb with hb | hb
    · right
      rw [hb] at hc'
      simp [osl, hc']
    · left
      rw [hb] at hc'
      simp at hc'
      omega

theorem e_append {s x : Operand} {t e : TypeId} {i : TypeInfo} {z : Value} {a a2 : Option Addr} {cap m sz k c2 bytes : Nat} {l news : List Value} {K : Value → List Res → Prop} {d : Option Tmp} {ty : TypeId} {pos : String} {af : Array Edge} {g : Option (Nat × Bool)}
    (ht : P.underlying t = some (.slice e)) (hi : P.info? e = some i) (hz : i.zero = some z) (hsize : i.size = sz) (hby : i.bytes = bytes) (hzs : z.cells.size = sz) (hsz : 0 < sz)
    (hs : ev σ s = .slice a m cap) (hx : ev σ x = .slice a2 k c2) (hp : Pick L (osl a cap m sz e l) M) (hsrc : ∀ w, SH w0 D L w → SrcS w a2 k sz news) (h1 : news.all Value.oneCell' = true) (hb : (m + k) * bytes ≤ 140737488355328) (hm : m + k ≤ 9007199254740992)
    (hK : ∀ a' cap', K (.slice a' (m + k) cap') (osl a' cap' (m + k) sz e (l ++ news) :: M)) : OpE P w0 D σ L ⟨d, .call { callee := .builtin .append, args := #[s, x], argTypes := #[t, t] }, ty, pos, af, g⟩ K :=
  .mk (by simp) fun w hw => by
    have hw' := hw.pick hp
    have hrow : w.ownsRow 0 e sz (.slice a m cap) m l := hw'.ok (osl a cap m sz e l) (by simp)
    obtain ⟨hnl, hrd⟩ := hsrc w hw
    have hmax : m + k ≤ maxLen := by unfold maxLen; omega
    cases a2 with
    | some p =>
      have hnews : ∀ j u, news[j]? = some u → w.cell? (p.add j) = some u := fun j u hj => by
        obtain ⟨h2, h3⟩ := hrd j u hj
        injection h2 with h2
        rw [h2, Addr.add_lit]
        exact h3
      obtain ⟨v', w', hr, h2, h3, h4, h5⟩ := run_append_own_at (P := P) w 0 t ty e i z sz bytes ht hi hz hsize hby hzs hsz _ m l hrow p k c2 news hnl hnews (by simpa using h1) hmax hb (Nat.zero_le _)
      have hv : ∃ a' cap', v' = .slice a' (m + k) cap' := by
        rcases h2.2 with ⟨rfl, h⟩ | ⟨g', cap', cur, rfl, _⟩
        · exact ⟨none, 0, by rw [h]⟩
        · exact ⟨_, _, rfl⟩
      obtain ⟨a', cap', rfl⟩ := hv
      refine ⟨_, w', _, ?_, hw'.grow h2 h3 h5, hK a' cap'⟩
      simp [execOp, resolve, invoke, builtin, hs, hx, hr]
    | none =>
      have hn0 : news = [] := by
        cases news with
        | nil => rfl
        | cons u us => have := (hrd 0 u rfl).1; cases this
      subst hn0
      have hk0 : k = 0 := by
        have h2 : k * sz = 0 := by rw [← hnl]; rfl
        rcases Nat.mul_eq_zero.1 h2 with h | h
        · exact h
        · omega
      subst hk0
      refine ⟨.slice a m cap, w, osl a cap m sz e l :: M, ?_, hw', ?_⟩
      · have hle : m ≤ cap := osl_cap (hw'.ok (osl a cap m sz e l) (by simp))
        cases a with
        | none => simp [execOp, resolve, invoke, builtin, hs, hx, Builtin.append_, run_underlying ht, sizeOf, typeInfo, hi, Builtin.lenOf, Builtin.firstCells, hle]
        | some p => simp [execOp, resolve, invoke, builtin, hs, hx, Builtin.append_, run_underlying ht, sizeOf, typeInfo, hi, Builtin.lenOf, Builtin.firstCells, hle, storeCells]
      · have := hK a cap
        simpa using this

/-! ### Calls that hand something back -/
/-- a call lent A; it hands back, for some x, 'A' x'. -/
theorem e_call {X : Type} {f : Nat} {as : Array Operand} {ts : Array TypeId} {args : Array Value} {A : List Res} {K : Value → List Res → Prop} {V : X → Value} {A' : X → List Res} {C : X → Prop} {d : Option Tmp} {ty : TypeId} {pos : String} {af : Array Edge} {g : Option (Nat × Bool)}
    (hc : ∀ args w, (callFunc f args).run P w = .ok (.enter f args) w) (ha : as.map (ev σ) = args) (hL : Ent L (A ++ M))
    (h : ∀ w, SH w0 D (A ++ M) w → Calls P f args w (fun e w' => ∃ x, e = .returned (V x) ∧ SH w (A.flatMap Res.fp) (A' x) w' ∧ C x)) (hK : ∀ x, C x → K (V x) (A' x ++ M)) :
    OpE P w0 D σ L ⟨d, .call { callee := .value (.func f), args := as, argTypes := ts }, ty, pos, af, g⟩ K := ⟨by simp, fun w hw => .inr (.inr (.inl (by
  have hw' := hw.ent hL
  have he : (execOp (ev σ) ⟨d, .call { callee := .value (.func f), args := as, argTypes := ts }, ty, pos, af, g⟩).run P w = .ok (.enter f args) w := by
    subst ha
    simp [execOp, resolve, Deferred.ofValue, invoke, ev, hc]
  exact ⟨f, args, he, (h w hw').mono fun e w' ⟨x, h1, h2, h3⟩ => ⟨V x, A' x ++ M, h1, hw'.frame h2, hK x h3⟩⟩)))⟩

/-- .. through a function value -/
theorem e_callV {X : Type} {z : Operand} {f : Nat} {as : Array Operand} {ts : Array TypeId} {args cap args' : Array Value} {A : List Res} {K : Value → List Res → Prop} {V : X → Value} {A' : X → List Res} {C : X → Prop} {d : Option Tmp} {ty : TypeId} {pos : String} {af : Array Edge} {g : Option (Nat × Bool)}
    (hz : ev σ z = .func (.func f) #[] cap) (hc : ∀ args w, (callFunc f args).run P w = .ok (.enter f args) w) (ha : as.map (ev σ) = args) (ha' : args ++ cap = args') (hL : Ent L (A ++ M))
    (h : ∀ w, SH w0 D (A ++ M) w → Calls P f args' w (fun e w' => ∃ x, e = .returned (V x) ∧ SH w (A.flatMap Res.fp) (A' x) w' ∧ C x)) (hK : ∀ x, C x → K (V x) (A' x ++ M)) :
    OpE P w0 D σ L ⟨d, .call { callee := .value z, args := as, argTypes := ts }, ty, pos, af, g⟩ K := ⟨by simp, fun w hw => .inr (.inr (.inl (by
  have hw' := hw.ent hL
  have he : (execOp (ev σ) ⟨d, .call { callee := .value z, args := as, argTypes := ts }, ty, pos, af, g⟩).run P w = .ok (.enter f args') w := by
    subst ha; subst ha'
    simp [execOp, resolve, Deferred.ofValue, invoke, hz, hc]
  exact ⟨f, args', he, (h w hw').mono fun e w' ⟨x, h1, h2, h3⟩ => ⟨V x, A' x ++ M, h1, hw'.frame h2, hK x h3⟩⟩)))⟩
end
end Go.Proofs.Ytldkjjnjdjfipaa
