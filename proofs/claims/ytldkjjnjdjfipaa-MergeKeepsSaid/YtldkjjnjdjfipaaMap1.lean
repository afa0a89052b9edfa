/- Map1: a map of numbers, as a resource: made, looked up, updated, shortened. It states nothing of the program. -/
import Derived.Test.YtldkjjnjdjfipaaSlc
import Derived.MapKept
namespace Go.Proofs.Ytldkjjnjdjfipaa
open Go Go.RowKit
set_option linter.unusedVariables false
set_option linter.unusedSimpArgs false
abbrev KV := List (Int64 × Int64)
/-- where a key stands, and what stands there -/
def ixM : KV → Int64 → Option (Nat × Int64)
  | [], _ => none
  | (a, v) :: l, k => if k = a then some (0, v) else (ixM l k).map fun p => (p.1 + 1, p.2)
def lkM (l : KV) (k : Int64) : Option Int64 := (ixM l k).map (·.2)
def upM (l : KV) (k v : Int64) : KV := match ixM l k with | some p => l.set p.1 (k, v) | none => l ++ [(k, v)]
def dlM (l : KV) (k : Int64) : KV := match ixM l k with | some p => l.eraseIdx p.1 | none => l
def kvE (e : MapEntry) : Value × Value := (e.key, e.val)
def kvL (p : Int64 × Int64) : Value × Value := (.int .i64 p.1.toInt, .int .i64 p.2.toInt)
theorem ixM_lt {l : KV} {k : Int64} {p : Nat × Int64} (h : ixM l k = some p) : p.1 < l.length := by
  induction l generalizing p with
  | nil => cases h
  | cons x l ih =>
    obtain ⟨a, v⟩ := x
    unfold ixM at h
    split at h
    · cases h; simp
    · rw [Option.map_eq_some_iff] at h
      obtain ⟨q, hq, rfl⟩ := h
      have := ih hq
      simp
      omega
theorem ixM_at {l : KV} {k : Int64} {p : Nat × Int64} (h : ixM l k = some p) : l[p.1]? = some (k, p.2) := by
  induction l generalizing p with
  | nil => cases h
  | cons x l ih =>
    obtain ⟨a, v⟩ := x
    unfold ixM at h
    split at h
    · cases h; subst_vars; rfl
    · rw [Option.map_eq_some_iff] at h
      obtain ⟨q, hq, rfl⟩ := h
      simpa using ih hq
theorem fn_i64 (k : Int64) : ∀ (es : List MapEntry) (l : KV) (i : Nat), es.map kvE = l.map kvL → Instr.findNow (.int .i64) (.int .i64 k.toInt) es i = some ((ixM l k).map fun p => (i + p.1, .int .i64 p.2.toInt))
  | [], [], i, h => rfl
  | [], x :: l, i, h => by simp at h
  | e :: es, [], i, h => by simp at h
  | e :: es, (a, v) :: l, i, h => by
    rw [List.map_cons, List.map_cons, List.cons.injEq] at h
    obtain ⟨h1, h2⟩ := h
    have hk : e.key = .int .i64 a.toInt := congrArg Prod.fst h1
    have hv : e.val = .int .i64 v.toInt := congrArg Prod.snd h1
    unfold Instr.findNow ixM
    rw [hk, hv]
    by_cases hka : k = a
    · subst hka
      simp [Instr.sameNow]
    · have : (k.toInt == a.toInt) = false := by
        rw [beq_eq_false_iff_ne]
        exact fun e => hka (Int64.toInt_inj.1 e)
      simp only [Instr.sameNow, if_true, this, if_neg hka]
      rw [fn_i64 k es l (i + 1) h2]
      cases ixM l k with
      | none => rfl
      | some p => simp; omega
/-- a map of numbers -/
def mpu (r : Nat) (l : KV) : Res := ⟨[r], fun w => ∃ es clk, w.heap[r]? = some (.map es clk) ∧ es.toList.map kvE = l.map kvL, fun w w' h hw => by
  obtain ⟨es, clk, h1, h2⟩ := hw
  exact ⟨es, clk, (h r (by simp)).trans h1, h2⟩⟩
section
variable {P : Program} {w0 : World} {D : List Nat} {σ : Fr} {L M : List Res}
theorem SH.obj {r : Nat} {p q : Res} {o' : Obj} {w : World} (h : SH w0 D (p :: L) w) (hp : p.fp = [r]) (hq : q.fp = [r]) (hok : q.ok { w with heap := w.heap.setIfInBounds r o' }) : SH w0 D (q :: L) { w with heap := w.heap.setIfInBounds r o' } := by
  have ho := h.own p (by simp) r (by simp [hp])
  refine SH.frame (A := [p]) (A' := [q]) h ⟨rfl, rfl, rfl, by simp, fun k hk hkD => ?_, ?_, ?_, by simp⟩
  · have hne : k ≠ r := fun e => hkD (by simp [hp, e])
    simp [Ne.symm hne]
  · intro x hx
    simp at hx; subst hx
    exact hok
  · intro x hx c hc
    simp at hx; subst hx
    rw [hq] at hc
    simp at hc; subst hc
    exact ⟨.inr (by simp [hp]), by simpa using ho.2⟩
theorem e_makeMap {t : TypeId} {K : Value → List Res → Prop} {d : Option Tmp} {ty : TypeId} {pos : String} {af : Array Edge} {g : Option (Nat × Bool)} (hK : ∀ b, K (.map (some b)) (mpu b [] :: L)) : OpE P w0 D σ L ⟨d, .makeMap t none, ty, pos, af, g⟩ K := by
  refine .mk (by simp) fun w hs => ⟨_, w.alloc (.map #[] 0), _, by simp [execOp, Instr.makeMap, Result.andThen], ?_, hK w.heap.size⟩
  have h1 := hs.frame0 (SH.new w (.map #[] 0))
  refine SH.weaken (p := blk w.heap.size (.map #[] 0)) h1 ⟨fun b hb => hb, fun w' hw' => ⟨#[], 0, hw', rfl⟩⟩
theorem y_lookup {t kt et : TypeId} {x y : Operand} {r : Nat} {l : KV} {k : Int64} {v : Int64} (ht : P.underlying t = some (.map kt et)) (hk : P.underlying kt = some (.int .i64)) (hz : ∀ w, (zeroValue et).run P w = .ok (.int .i64 0) w) (hx : ev σ x = .map (some r)) (hy : ev σ y = .int .i64 k.toInt) (hp : Pick L (mpu r l) M) (hv : (lkM l k).getD 0 = v) :
    OpR P w0 D σ L (.lookup t x y false) (.int .i64 v.toInt) :=
  .mk (by simp) fun d ty pos af g w hs => by
    obtain ⟨es, clk, hb, he⟩ := hs.get hp
    have hf := fn_i64 k es.toList l 0 he
    have hc : (Instr.checkKey es.isEmpty 10000 kt (.int .i64 k.toInt)).run P w = .ok () w := MapKept.run_checkKey (n := 9999) hk (by simp [MapKept.IsKey]) _
    subst hv
    unfold lkM
    cases hi : ixM l k with
    | none => rw [hi] at hf; simp [execOp, Instr.lookup, hx, hy, run_underlying ht, MapKept.run_getObj_map hb, hc, MapKept.run_findKey hk hf, hz]
    | some p => rw [hi] at hf; simp [execOp, Instr.lookup, hx, hy, run_underlying ht, MapKept.run_getObj_map hb, hc, MapKept.run_findKey hk hf]
theorem y_lookup2 {t kt et : TypeId} {x y : Operand} {r : Nat} {l : KV} {k : Int64} {v : Int64} {b : Bool} (ht : P.underlying t = some (.map kt et)) (hk : P.underlying kt = some (.int .i64)) (hz : ∀ w, (zeroValue et).run P w = .ok (.int .i64 0) w) (hx : ev σ x = .map (some r)) (hy : ev σ y = .int .i64 k.toInt) (hp : Pick L (mpu r l) M) (hv : (lkM l k).getD 0 = v) (hb' : (lkM l k).isSome = b) :
    OpR P w0 D σ L (.lookup t x y true) (.tuple #[.int .i64 v.toInt, .bool b]) :=
  .mk (by simp) fun d ty pos af g w hs => by
    obtain ⟨es, clk, hb, he⟩ := hs.get hp
    have hf := fn_i64 k es.toList l 0 he
    have hc : (Instr.checkKey es.isEmpty 10000 kt (.int .i64 k.toInt)).run P w = .ok () w := MapKept.run_checkKey (n := 9999) hk (by simp [MapKept.IsKey]) _
    subst hv hb'
    unfold lkM
    cases hi : ixM l k with
    | none => rw [hi] at hf; simp [execOp, Instr.lookup, hx, hy, run_underlying ht, MapKept.run_getObj_map hb, hc, MapKept.run_findKey hk hf, hz]
    | some p => rw [hi] at hf; simp [execOp, Instr.lookup, hx, hy, run_underlying ht, MapKept.run_getObj_map hb, hc, MapKept.run_findKey hk hf]
theorem y_lenM {t kt et : TypeId} {x : Operand} {r : Nat} {l : KV} (ht : P.underlying t = some (.map kt et)) (hx : ev σ x = .map (some r)) (hp : Pick L (mpu r l) M) : OpR P w0 D σ L (.call { callee := .builtin .len, args := #[x], argTypes := #[t] }) (.int .i64 ((l.length : Nat) : Int)) :=
  .mk (by simp) fun d ty pos af g w hs => by
    obtain ⟨es, clk, hb, he⟩ := hs.get hp
    have hl : es.size = l.length := by have := congrArg List.length he; simpa using this
    simp [execOp, resolve, invoke, builtin, Builtin.len_, hx, run_underlying ht, MapKept.run_getObj_map hb, goInt, hl]
theorem e_mapUpdate {t kt et : TypeId} {x y z : Operand} {r : Nat} {l l' : KV} {k v : Int64} {K : Value → List Res → Prop} {d : Option Tmp} {ty : TypeId} {pos : String} {af : Array Edge} {g : Option (Nat × Bool)}
    (ht : P.underlying t = some (.map kt et)) (hk : P.underlying kt = some (.int .i64)) (hx : ev σ x = .map (some r)) (hy : ev σ y = .int .i64 k.toInt) (hz : ev σ z = .int .i64 v.toInt) (hp : Pick L (mpu r l) M) (hl : upM l k v = l') (hK : K undef (mpu r l' :: M)) :
    OpE P w0 D σ L ⟨d, .mapUpdate t x y z, ty, pos, af, g⟩ K :=
  ⟨by simp, fun w hw => .inr (.inl (by
    have hw' := hw.pick hp
    obtain ⟨es, clk, hb, he⟩ := hw'.ok (mpu r l) (by simp)
    have hf := fn_i64 k es.toList l 0 he
    have hc : (Instr.checkKey false 10000 kt (.int .i64 k.toInt)).run P w = .ok () w := MapKept.run_checkKey (n := 9999) hk (by simp [MapKept.IsKey]) _
    have hel : es.size = l.length := by have := congrArg List.length he; simpa using this
    subst hl
    unfold upM at hK
    cases hi : ixM l k with
    | none =>
      rw [hi] at hf hK
      refine ⟨{ w with heap := w.heap.setIfInBounds r (.map (es.push ⟨.int .i64 k.toInt, .int .i64 v.toInt, clk⟩) (clk + 1)) }, _, by simp [execOp, Instr.mapUpdate, hx, hy, hz, run_underlying ht, MapKept.run_getObj_map hb, hc, MapKept.run_findKey hk hf, MapKept.run_setObj_map _ hb], ?_, hK⟩
      refine SH.obj hw' rfl rfl ⟨_, _, (MapKept.heap_set hb).1, ?_⟩
      simp [he, kvE, kvL]
    | some p =>
      rw [hi] at hf hK
      have hlt := ixM_lt hi
      have hat : es[p.1]? = some (es[p.1]'(by omega)) := Array.getElem?_eq_getElem (by omega)
      have hkey : (es[p.1]'(by omega)).key = .int .i64 k.toInt := by
        have h1 := congrArg (fun z : List (Value × Value) => z[p.1]?) he
        simp only [List.getElem?_map] at h1
        rw [ixM_at hi] at h1
        have h2 : es.toList[p.1]? = some (es[p.1]'(by omega)) := by rw [Array.getElem?_toList]; exact hat
        rw [h2] at h1
        exact congrArg Prod.fst (Option.some.inj h1)
      have hst : (Instr.keyThatStays (.int .i64 k.toInt) (.int .i64 k.toInt)).run P w = .ok (.int .i64 k.toInt) w := MapKept.run_keyThatStays (d := .int .i64) (by simp [MapKept.IsKey])
      refine ⟨{ w with heap := w.heap.setIfInBounds r (.map (es.modify p.1 fun e => { e with key := .int .i64 k.toInt, val := .int .i64 v.toInt }) clk) }, _, by simp [execOp, Instr.mapUpdate, hx, hy, hz, run_underlying ht, MapKept.run_getObj_map hb, hc, MapKept.run_findKey hk hf, hat, hkey, hst, MapKept.run_setObj_map _ hb], ?_, hK⟩
      refine SH.obj hw' rfl rfl ⟨_, _, (MapKept.heap_set hb).1, ?_⟩
      apply List.ext_getElem?
      intro j
      have h1 := congrArg (fun z : List (Value × Value) => z[j]?) he
      simp only [List.getElem?_map, Array.getElem?_toList] at h1 ⊢
      rw [Array.getElem?_modify, List.getElem?_set]
      by_cases hj : p.1 = j
      · subst hj
        simp [hat, hlt, kvE, kvL]
      · simp [hj, h1]))⟩
theorem e_delete {t kt et kt2 : TypeId} {x y : Operand} {r : Nat} {l l' : KV} {k : Int64} {K : Value → List Res → Prop} {d : Option Tmp} {ty : TypeId} {pos : String} {af : Array Edge} {g : Option (Nat × Bool)}
    (ht : P.underlying t = some (.map kt et)) (hk : P.underlying kt = some (.int .i64)) (hx : ev σ x = .map (some r)) (hy : ev σ y = .int .i64 k.toInt) (hp : Pick L (mpu r l) M) (hl : dlM l k = l') (hK : K (.tuple #[]) (mpu r l' :: M)) :
    OpE P w0 D σ L ⟨d, .call { callee := .builtin .delete, args := #[x, y], argTypes := #[t, kt2] }, ty, pos, af, g⟩ K := by
  refine .mk (by simp) fun w hw => ?_
  have hw' := hw.pick hp
  obtain ⟨es, clk, hb, he⟩ := hw'.ok (mpu r l) (by simp)
  have hf := fn_i64 k es.toList l 0 he
  have hc : (Instr.checkKey es.isEmpty 10000 kt (.int .i64 k.toInt)).run P w = .ok () w := MapKept.run_checkKey (n := 9999) hk (by simp [MapKept.IsKey]) _
  have hel : es.size = l.length := by have := congrArg List.length he; simpa using this
  subst hl
  unfold dlM at hK
  cases hi : ixM l k with
  | none =>
    rw [hi] at hf hK
    refine ⟨_, { w with heap := w.heap.setIfInBounds r (.map es clk) }, _, by simp [execOp, resolve, invoke, builtin, Builtin.delete_, hx, hy, run_underlying ht, MapKept.run_getObj_map hb, hc, MapKept.run_findKey hk hf, MapKept.run_setObj_map _ hb], ?_, hK⟩
    exact SH.obj hw' rfl rfl ⟨_, _, (MapKept.heap_set hb).1, he⟩
  | some p =>
    rw [hi] at hf hK
    have hlt := ixM_lt hi
    refine ⟨_, { w with heap := w.heap.setIfInBounds r (.map (es.eraseIdxIfInBounds p.1) clk) }, _, by simp [execOp, resolve, invoke, builtin, Builtin.delete_, hx, hy, run_underlying ht, MapKept.run_getObj_map hb, hc, MapKept.run_findKey hk hf, MapKept.run_setObj_map _ hb], ?_, hK⟩
    refine SH.obj hw' rfl rfl ⟨_, _, (MapKept.heap_set hb).1, ?_⟩
    have : (es.eraseIdxIfInBounds p.1).toList = es.toList.eraseIdx p.1 := by
      unfold Array.eraseIdxIfInBounds
      rw [dif_pos (by omega)]
      simp
    show (es.eraseIdxIfInBounds p.1).toList.map kvE = (l.eraseIdx p.1).map kvL
    rw [this, List.eraseIdx_eq_take_drop_succ, List.eraseIdx_eq_take_drop_succ, List.map_append, List.map_append, List.map_take, List.map_take, List.map_drop, List.map_drop, he]
end
end Go.Proofs.Ytldkjjnjdjfipaa
