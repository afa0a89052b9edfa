/- Map2: a map that counts records, as a resource: looked up, an entry made and filled, walked through in any order. -/
import Derived.Test.YtldkjjnjdjfipaaMap1
import Derived.Test.YtldkjjnjdjfipaaEq
import Derived.WideKeyRuns
namespace Go.Proofs.Ytldkjjnjdjfipaa
open Go Go.RowKit
set_option linter.unusedVariables false
set_option linter.unusedSimpArgs false
abbrev RV := List (Rec × Int)
def recA (k : Rec) : Value := .agg #[.bool k.dead, .int .i64 k.key.toInt, .int .i64 k.value.toInt, .int .i64 k.seq.toInt]
def entR (i : Nat) (p : Rec × Int) : MapEntry := ⟨recA p.1, .int .i64 p.2, i⟩
def entL (l : RV) : List MapEntry := l.mapIdx entR
def ixK (l : RV) (k : Rec) : Nat := l.findIdx fun p => decide (k = p.1)
def vK (l : RV) (k : Rec) : Int := if ixK l k < l.length then (l.getD (ixK l k) default).2 else 0
def ens (l : RV) (k : Rec) : RV := if ixK l k < l.length then l else l ++ [(k, 0)]
def bmp (l : RV) (k : Rec) (v : Int) : RV := (ens l k).set (ixK l k) (k, v)
def mpk (r : Nat) (l : RV) : Res := blk r (.map (entL l).toArray l.length)
def itr (it m : Nat) (n : Nat) (seen : Array Nat) : Res := blk it (.mapIter (some m) n seen n)
theorem entL_len (l : RV) : (entL l).length = l.length := by simp [entL]
theorem entL_map (l : RV) : entL l = (List.range l.length).map fun j => entR j (l.getD j default) := by
  apply List.ext_getElem?
  intro i
  unfold entL
  rw [List.getElem?_mapIdx, List.getElem?_map]
  by_cases h : i < l.length
  · rw [List.getElem?_eq_getElem h, List.getElem?_range h]
    simp [h]
  · rw [List.getElem?_eq_none (by omega), List.getElem?_eq_none (by simp; omega)]
    rfl
theorem entL_at (l : RV) (i : Nat) (h : i < l.length) : (entL l)[i]? = some (entR i (l.getD i default)) := by
  unfold entL
  rw [List.getElem?_mapIdx, List.getElem?_eq_getElem h, List.getD_eq_getElem?_getD, List.getElem?_eq_getElem h]
  rfl
theorem ixK_le (l : RV) (k : Rec) : ixK l k ≤ l.length := List.findIdx_le_length
theorem ixK_key {l : RV} {k : Rec} (h : ixK l k < l.length) : (l.getD (ixK l k) default).1 = k := by
  have h3 := List.findIdx_getElem (xs := l) (p := fun p : Rec × Int => decide (k = p.1)) (w := h)
  rw [List.getD_eq_getElem?_getD, List.getElem?_eq_getElem h, Option.getD_some]
  exact (of_decide_eq_true h3).symm
section
variable {P : Program} {w0 : World} {D : List Nat} {σ : Fr} {L M N : List Res}
theorem run_asking (w : World) (k : Rec) : ∀ (es : List MapEntry) (l : RV) (i j : Nat), es = l.mapIdx (fun q p => entR (j + q) p) → (Instr.findAsking 23 (recA k) es i).run Try.prog w = .ok (if ixK l k < l.length then some (i + ixK l k, .int .i64 (l.getD (ixK l k) default).2) else none) w
  | es, [], i, j, h => by
    subst h
    simp [Instr.findAsking, ixK]
  | es, (a, v) :: l, i, j, h => by
    subst h
    rw [List.mapIdx_cons]
    have he : (Op.equal 23 (recA k) (recA a)).run Try.prog w = .ok (decide (k = a)) w := by
      have h := equalR w k a
      exact h
    have ih := run_asking w k (l.mapIdx (fun q p => entR (j + 1 + q) p)) l (i + 1) (j + 1) rfl
    have e1 : (fun (q : Nat) (p : Rec × Int) => entR (j + (q + 1)) p) = fun q p => entR (j + 1 + q) p := funext fun q => funext fun p => by rw [show j + (q + 1) = j + 1 + q by omega]
    unfold Instr.findAsking
    simp only [Sem.run_bind]
    show ((Op.equal 23 (recA k) (entR (j + 0) (a, v)).key).run Try.prog w).andThen _ = _
    rw [show (entR (j + 0) (a, v)).key = recA a from rfl, he]
    by_cases hk : k = a
    · subst hk
      simp [Result.andThen, ixK, List.findIdx_cons, entR]
    · have hx : ixK ((a, v) :: l) k = ixK l k + 1 := by unfold ixK; rw [List.findIdx_cons]; simp [hk]
      simp only [Result.andThen, hk, decide_false, Bool.false_eq_true, if_false]
      rw [e1, ih, hx]
      by_cases h2 : ixK l k < l.length
      · rw [if_pos h2, if_pos (by simpa using h2)]
        simp
        omega
      · rw [if_neg h2, if_neg (by simpa using h2)]
theorem run_findK (w : World) (k : Rec) (l : RV) : (Instr.findKey 23 (recA k) (entL l)).run Try.prog w = .ok (if ixK l k < l.length then some (ixK l k, .int .i64 (l.getD (ixK l k) default).2) else none) w := by
  rw [run_findKey_eq w (by rw [Try.underlying23])]
  have := run_asking w k (entL l) l 0 0 (by unfold entL; congr 1; funext q p; rw [Nat.zero_add])
  simpa using this
theorem run_checkKn (w : World) (k : Rec) (e : Bool) (n : Nat) : (Instr.checkKey e (n + 2) 23 (recA k)).run Try.prog w = .ok () w := by
  unfold Instr.checkKey
  simp only [Sem.run_bind, run_underlying Try.underlying23, Result.andThen, recA]
  have hB : ∀ z w, (Instr.checkKey e (n + 1) 4 (.bool z)).run Try.prog w = .ok () w := fun z w => MapKept.run_checkKey Try.underlying4 (by simp [MapKept.IsKey]) e n
  have hI : ∀ z w, (Instr.checkKey e (n + 1) 2 (.int .i64 z)).run Try.prog w = .ok () w := fun z w => MapKept.run_checkKey Try.underlying2 (by simp [MapKept.IsKey]) e n
  simp [part, hB, hI]
theorem run_checkK (w : World) (k : Rec) (e : Bool) : (Instr.checkKey e 10000 23 (recA k)).run Try.prog w = .ok () w := run_checkKn w k e 9998
theorem run_zero3 (w : World) : (zeroValue 3).run Try.prog w = .ok (.int .i64 0) w := Try.zeroValue3 w
theorem y_lookupK {t : TypeId} {x y : Operand} {r : Nat} {l : RV} {k : Rec} {v : Int} (ht : Try.prog.underlying t = some (.map 23 3)) (hx : ev σ x = .map (some r)) (hy : ev σ y = recA k) (hp : Pick L (mpk r l) M) (hv : vK l k = v) :
    OpR Try.prog w0 D σ L (.lookup t x y false) (.int .i64 v) :=
  .mk (by simp) fun d ty pos af g w hs => by
    have hb : w.heap[r]? = some (.map (entL l).toArray l.length) := hs.get hp
    subst hv
    unfold vK
    by_cases h : ixK l k < l.length
    · simp [execOp, Instr.lookup, hx, hy, run_underlying ht, MapKept.run_getObj_map hb, run_checkK, run_findK, run_zero3, h]
    · simp [execOp, Instr.lookup, hx, hy, run_underlying ht, MapKept.run_getObj_map hb, run_checkK, run_findK, run_zero3, h]
theorem run_keyK (w : World) (k : Rec) : (Instr.keyThatStays (recA k) (recA k)).run Try.prog w = .ok (recA k) w := by
  simp [Instr.keyThatStays, recA, Instr.sameBits]
theorem modify_same {es : Array MapEntry} {i : Nat} {f : MapEntry → MapEntry} (h : ∀ e, es[i]? = some e → f e = e) : es.modify i f = es := by
  apply Array.ext_getElem?
  intro j
  rw [Array.getElem?_modify]
  split
  · subst_vars
    cases he : es[j]? with
    | none => rfl
    | some e => simp [h e he]
  · rfl
theorem e_mapEntry {t : TypeId} {x y : Operand} {r : Nat} {l : RV} {k : Rec} {K : Value → List Res → Prop} {d : Option Tmp} {ty : TypeId} {pos : String} {af : Array Edge} {g : Option (Nat × Bool)}
    (ht : Try.prog.underlying t = some (.map 23 3)) (hx : ev σ x = .map (some r)) (hy : ev σ y = recA k) (hp : Pick L (mpk r l) M) (hK : K (.tuple #[.int .i64 (vK l k), .int .i64 ((ixK l k : Nat) : Int)]) (mpk r (ens l k) :: M)) :
    OpE Try.prog w0 D σ L ⟨d, .mapEntry t x y, ty, pos, af, g⟩ K := by
  refine .mk (by simp) fun w hw => ?_
  have hw' := hw.pick hp
  have hb : w.heap[r]? = some (.map (entL l).toArray l.length) := hw'.ok (mpk r l) (by simp)
  unfold vK ens at hK
  by_cases h : ixK l k < l.length
  · rw [if_pos h, if_pos h] at hK
    have hat : (entL l).toArray[ixK l k]? = some (entR (ixK l k) (l.getD (ixK l k) default)) := by rw [List.getElem?_toArray]; exact entL_at l _ h
    have hkey : (entR (ixK l k) (l.getD (ixK l k) default)).key = recA k := congrArg recA (ixK_key h)
    have hsame : (entL l).toArray.modify (ixK l k) (fun e => { e with key := recA k }) = (entL l).toArray := modify_same fun e he => by
      rw [hat] at he
      obtain rfl := Option.some.inj he
      rw [← hkey]
    refine ⟨_, { w with heap := w.heap.setIfInBounds r (.map (entL l).toArray l.length) }, _, ?_, SH.obj hw' rfl rfl (MapKept.heap_set hb).1, hK⟩
    have hborn : (entR (ixK l k) (l.getD (ixK l k) default)).born = ixK l k := rfl
    simp only [execOp, Instr.mapEntry, hx, hy, Sem.run_bind, run_underlying ht, MapKept.run_getObj_map hb, Result.andThen, run_checkK, run_findK, List.toList_toArray, if_pos h, hat, Option.map_some, Option.getD_some, hkey, hborn, run_keyK, hsame, MapKept.run_setObj_map _ hb, Sem.run_pure, goInt]
  · rw [if_neg h, if_neg h] at hK
    have hi : ixK l k = l.length := Nat.le_antisymm (ixK_le l k) (by omega)
    have hpush : (entL l).toArray.push { key := recA k, val := .int .i64 0, born := l.length } = (entL (l ++ [(k, 0)])).toArray := by
      unfold entL
      rw [List.mapIdx_append]
      simp [entR]
    refine ⟨_, { w with heap := w.heap.setIfInBounds r (.map (entL (l ++ [(k, 0)])).toArray (l.length + 1)) }, _, ?_, SH.obj hw' rfl rfl ?_, hK⟩
    · simp only [execOp, Instr.mapEntry, hx, hy, Sem.run_bind, run_underlying ht, MapKept.run_getObj_map hb, Result.andThen, run_checkK, run_findK, List.toList_toArray, if_neg h, Nat.lt_irrefl, if_false, run_zero3, hpush, MapKept.run_setObj_map _ hb, Sem.run_pure, goInt, hi]
    · show _ = some (Obj.map (entL (l ++ [(k, 0)])).toArray (l ++ [(k, (0 : Int))]).length)
      rw [(MapKept.heap_set hb).1]
      simp
theorem ens_lt (l : RV) (k : Rec) : ixK l k < (ens l k).length := by
  unfold ens
  split
  · assumption
  · have := ixK_le l k
    simp
    omega
theorem entL_set (l : RV) (i : Nat) (k : Rec) (v : Int) (h : i < l.length) (hk : (l.getD i default).1 = k) : (entL l).toArray.modify i (fun e => { e with val := .int .i64 v }) = (entL (l.set i (k, v))).toArray := by
  apply Array.ext_getElem?
  intro j
  rw [Array.getElem?_modify, List.getElem?_toArray, List.getElem?_toArray]
  unfold entL
  rw [List.getElem?_mapIdx, List.getElem?_mapIdx, List.getElem?_set]
  by_cases hj : i = j
  · subst hj
    rw [List.getD_eq_getElem?_getD, List.getElem?_eq_getElem h, Option.getD_some] at hk
    simp [h, entR, hk]
  · simp [hj]
theorem findB (l : RV) (i : Nat) (h : i < l.length) : (entL l).toArray.findIdx? (fun e => (e.born : Int) == ((i : Nat) : Int)) = some i := by
  rw [List.findIdx?_toArray, List.findIdx?_eq_some_iff_getElem]
  refine ⟨by rw [entL_len]; exact h, ?_, fun j hj => ?_⟩
  · have := entL_at l i h
    rw [List.getElem?_eq_getElem (by rw [entL_len]; exact h)] at this
    rw [Option.some.inj this]
    simp [entR]
  · have := entL_at l j (by omega)
    rw [List.getElem?_eq_getElem (by rw [entL_len]; omega)] at this
    rw [Option.some.inj this]
    simp [entR]
    omega
theorem e_entryStore {t : TypeId} {x y z : Operand} {r i : Nat} {l l' : RV} {k : Rec} {v : Int} {K : Value → List Res → Prop} {d : Option Tmp} {ty : TypeId} {pos : String} {af : Array Edge} {g : Option (Nat × Bool)}
    (hx : ev σ x = .map (some r)) (hy : ev σ y = .int .i64 ((i : Nat) : Int)) (hz : ev σ z = .int .i64 v) (hp : Pick L (mpk r l) M) (hi : i < l.length) (hk : (l.getD i default).1 = k) (hl : l.set i (k, v) = l') (hK : K undef (mpk r l' :: M)) :
    OpE Try.prog w0 D σ L ⟨d, .entryStore t x y z, ty, pos, af, g⟩ K :=
  ⟨by simp, fun w hw => .inr (.inl (by
    have hw' := hw.pick hp
    have hb : w.heap[r]? = some (.map (entL l).toArray l.length) := hw'.ok (mpk r l) (by simp)
    subst hl
    refine ⟨{ w with heap := w.heap.setIfInBounds r (.map (entL (l.set i (k, v))).toArray l.length) }, _, ?_, SH.obj hw' rfl rfl ?_, hK⟩
    · have hf := findB l i hi
      have hs := entL_set l i k v hi hk
      simp only [execOp, Instr.entryStore, hx, hy, hz, Sem.run_bind, MapKept.run_getObj_map hb, Result.andThen, asInt, asIntOf, Sem.run_pure, hf, hs, MapKept.run_setObj_map _ hb]
    · show _ = some (Obj.map (entL (l.set i (k, v))).toArray (l.set i (k, v)).length)
      rw [(MapKept.heap_set hb).1, List.length_set]))⟩
theorem e_makeK {t : TypeId} {K : Value → List Res → Prop} {d : Option Tmp} {ty : TypeId} {pos : String} {af : Array Edge} {g : Option (Nat × Bool)} (hK : ∀ b, K (.map (some b)) (mpk b [] :: L)) : OpE Try.prog w0 D σ L ⟨d, .makeMap t none, ty, pos, af, g⟩ K := by
  refine .mk (by simp) fun w hs => ⟨_, w.alloc (.map #[] 0), _, by simp [execOp, Instr.makeMap, Result.andThen], ?_, hK w.heap.size⟩
  exact hs.frame0 (SH.new w (.map #[] 0))
theorem e_rangeK {t : TypeId} {x : Operand} {r : Nat} {l : RV} {K : Value → List Res → Prop} {d : Option Tmp} {ty : TypeId} {pos : String} {af : Array Edge} {g : Option (Nat × Bool)} (ht : Try.prog.underlying t = some (.map 23 3)) (hx : ev σ x = .map (some r)) (hp : Pick L (mpk r l) M)
    (hK : ∀ b, K (.pointer (some ⟨b, 0, none⟩)) (itr b r l.length #[] :: L)) : OpE Try.prog w0 D σ L ⟨d, .range t x, ty, pos, af, g⟩ K := by
  refine .mk (by simp) fun w hs => ?_
  have hb : w.heap[r]? = some (.map (entL l).toArray l.length) := hs.get hp
  refine ⟨_, w.alloc (.mapIter (some r) l.length #[] l.length), _, by simp [execOp, Instr.range, hx, run_underlying ht, MapKept.run_getObj_map hb, Result.andThen], ?_, hK w.heap.size⟩
  exact hs.frame0 (SH.new w _)
def leftK (l : RV) (seen : Array Nat) : List Nat := (List.range l.length).filter fun j => !seen.contains j
theorem leftK_mem {l : RV} {seen : Array Nat} {j : Nat} : j ∈ leftK l seen ↔ j < l.length ∧ seen.contains j = false := by simp [leftK]
theorem leftK_push {l : RV} {seen : Array Nat} {j : Nat} (h : j ∈ leftK l seen) : (leftK l (seen.push j)).length < (leftK l seen).length := by
  have e : leftK l (seen.push j) = (leftK l seen).filter fun q => decide (q ≠ j) := by
    unfold leftK
    rw [List.filter_filter]
    refine List.filter_congr fun q _ => ?_
    rw [Bool.eq_iff_iff]
    simp [Array.contains_push]
    constructor
    · rintro ⟨h1, h2⟩; exact ⟨fun e => h2 e, h1⟩
    · rintro ⟨h1, h2⟩; exact ⟨h2, fun e => h1 e⟩
  rw [e]
  exact List.length_filter_lt_length_iff_exists.2 ⟨j, h, by simp⟩
theorem e_nextK {x : Operand} {it r : Nat} {l : RV} {seen : Array Nat} {K : Value → List Res → Prop} {d : Option Tmp} {ty : TypeId} {pos : String} {af : Array Edge} {g : Option (Nat × Bool)}
    (hx : ev σ x = .pointer (some ⟨it, 0, none⟩)) (hp : Pick L (itr it r l.length seen) M) (hq : Pick M (mpk r l) N)
    (h0 : leftK l seen = [] → K (.tuple #[.bool false]) L)
    (h1 : ∀ j, j ∈ leftK l seen → K (.tuple #[.bool true, recA (l.getD j default).1, .int .i64 (l.getD j default).2]) (itr it r l.length (seen.push j) :: M)) :
    OpE Try.prog w0 D σ L ⟨d, .next x false, ty, pos, af, g⟩ K := by
  refine ⟨by simp, fun w hs => .inl ?_⟩
  have hs2 := hs.pick hp
  have hi : w.heap[it]? = some (.mapIter (some r) l.length seen l.length) := hs2.ok (itr it r l.length seen) (by simp)
  have hb : w.heap[r]? = some (.map (entL l).toArray l.length) := hs2.drop.get hq
  have hgo : (getObj it).run Try.prog w = .ok (.mapIter (some r) l.length seen l.length) w := by simp [getObj, Sem.run, hi]
  have hcond : (!seen.isEmpty && !(entL l).toArray.isEmpty && (entL l).toArray.all (fun e => decide (e.born ≥ l.length))) = false := by
    by_cases h : l.length = 0
    · have : (entL l).toArray.isEmpty = true := by
        have h2 := entL_len l
        rw [h] at h2
        rw [List.length_eq_zero_iff.1 h2]
        rfl
      rw [this]
      simp
    · have : (entL l).toArray.all (fun e => decide (e.born ≥ l.length)) = false := by
        rw [Bool.eq_false_iff]
        intro h2
        rw [List.all_toArray, List.all_eq_true] at h2
        have h3 := h2 (entR 0 (l.getD 0 default)) (by rw [entL_map]; exact List.mem_map.2 ⟨0, by simp; omega, rfl⟩)
        have h4 : (0 : Nat) ≥ l.length := of_decide_eq_true h3
        omega
      rw [this]
      simp
  have e0 : (entL l).toArray.filter (fun e => !seen.contains e.born) = ((leftK l seen).map fun j => entR j (l.getD j default)).toArray := by
    rw [List.filter_toArray, entL_map, List.filter_map]
    rfl
  have hlt : ∀ e ∈ (leftK l seen).map (fun j => entR j (l.getD j default)), e.born < l.length := fun e he => by
    obtain ⟨j, hj, rfl⟩ := List.mem_map.1 he
    exact (leftK_mem.1 hj).1
  have e1 : (((leftK l seen).map fun j => entR j (l.getD j default)).toArray).filter (fun e => decide (e.born < l.length)) = ((leftK l seen).map fun j => entR j (l.getD j default)).toArray := by
    rw [List.filter_toArray, List.filter_eq_self.2 (fun e he => decide_eq_true (hlt e he))]
  have e2 : (((leftK l seen).map fun j => entR j (l.getD j default)).toArray).filter (fun e => decide (e.born ≥ l.length)) = #[] := by
    rw [List.filter_toArray, List.filter_eq_nil_iff.2 (fun e he => by have := hlt e he; simp; omega)]
  have hch : ∀ n, 0 < n → ∃ i w', (choose (.mapNext n)).run Try.prog w = .ok i w' ∧ i < n ∧ (w' = w ∨ w' = { w with drawn := w.drawn + 1 }) := fun n hn => by
    rw [run_choose]
    by_cases hf : n ≤ 1
    · exact ⟨0, w, by rw [if_pos (show (Question.mapNext n).forced = true from decide_eq_true hf)], hn, .inl rfl⟩
    · exact ⟨w.tape w.drawn (.mapNext n) % n, { w with drawn := w.drawn + 1 }, by rw [if_neg (show ¬ (Question.mapNext n).forced = true from fun h => hf (of_decide_eq_true h))]; rfl, Nat.mod_lt _ hn, .inr rfl⟩
  by_cases hl : leftK l seen = []
  · obtain ⟨i, w', hr, hin, hw'⟩ := hch 1 (by decide)
    obtain rfl : i = 0 := by omega
    refine ⟨.tuple #[.bool false], w', L, ?_, ?_, h0 hl⟩
    · rw [hl] at e0 e1 e2
      simp only [List.map_nil] at e0 e1 e2
      simp only [execOp, Instr.next, hx, Sem.run_bind, hgo, Result.andThen, MapKept.run_getObj_map hb, hcond, Bool.false_eq_true, if_false, e0, e1, e2]
      simp [-run_choose, -run_choose_drew, hr, Result.andThen]
    · rcases hw' with rfl | rfl
      · exact hs
      · exact hs.drew
  · have hpos : 0 < (leftK l seen).length := List.length_pos_iff.2 hl
    obtain ⟨i, w', hr, hin, hw'⟩ := hch (leftK l seen).length hpos
    have hmem : (leftK l seen)[i] ∈ leftK l seen := List.getElem_mem hin
    have hne : (((leftK l seen).map fun j => entR j (l.getD j default)).toArray).isEmpty = false := by
      cases hz : leftK l seen with
      | nil => exact absurd hz hl
      | cons _ _ => rfl
    have hcn : (((((leftK l seen).map fun j => entR j (l.getD j default)).toArray) ++ #[]).map some)[i]? = some (some (entR (leftK l seen)[i] (l.getD (leftK l seen)[i] default))) := by
      simp [hin]
    have hsz : (((((leftK l seen).map fun j => entR j (l.getD j default)).toArray) ++ #[]).map some).size = (leftK l seen).length := by simp
    have hi' : w'.heap[it]? = some (.mapIter (some r) l.length seen l.length) := by rcases hw' with rfl | rfl <;> exact hi
    have hs' : SH w0 D (itr it r l.length seen :: M) w' := by
      rcases hw' with rfl | rfl
      · exact hs2
      · exact hs2.drew
    have hset : ∀ o', (setObj it o').run Try.prog w' = .ok () { w' with heap := w'.heap.setIfInBounds it o' } := fun o' => by simp [setObj, Sem.run, hi']
    refine ⟨_, { w' with heap := w'.heap.setIfInBounds it (.mapIter (some r) l.length (seen.push (leftK l seen)[i]) l.length) }, _, ?_, SH.obj hs' rfl rfl (MapKept.heap_set hi').1, h1 _ hmem⟩
    simp only [execOp, Instr.next, hx, Sem.run_bind, hgo, Result.andThen, MapKept.run_getObj_map hb, hcond, Bool.false_eq_true, if_false, e0, e1, e2, hne, Array.empty_append, hsz, hr, hcn]
    simp only [Sem.run_bind, Sem.run_pure, Result.andThen, show (entR (leftK l seen)[i] (l.getD (leftK l seen)[i] default)).born = (leftK l seen)[i] from rfl, hset]
    rfl
theorem y_entryK {x : Operand} {it r j : Nat} {l : RV} {seen : Array Nat} (hx : ev σ x = .pointer (some ⟨it, 0, none⟩)) (hp : Pick L (itr it r l.length (seen.push j)) M) (hq : Pick L (mpk r l) N) (hj : j < l.length) :
    OpR Try.prog w0 D σ L (.entry x) (.tuple #[recA (l.getD j default).1, .int .i64 (l.getD j default).2]) :=
  .mk (by simp) fun d ty pos af g w hs => by
    have hb : w.heap[r]? = some (.map (entL l).toArray l.length) := hs.get hq
    have hi : w.heap[it]? = some (.mapIter (some r) l.length (seen.push j) l.length) := hs.get hp
    have hgo : (getObj it).run Try.prog w = .ok (.mapIter (some r) l.length (seen.push j) l.length) w := by simp [getObj, Sem.run, hi]
    have hf : (entL l).toArray.find? (fun e => e.born == j) = some (entR j (l.getD j default)) := by
      rw [List.find?_toArray, entL_map, List.find?_map]
      have h2 : (List.range l.length).find? ((fun e : MapEntry => e.born == j) ∘ fun j => entR j (l.getD j default)) = some j := by
        rw [List.find?_eq_some_iff_getElem]
        refine ⟨by simp [entR], j, by simpa using hj, by simp, fun q hq => ?_⟩
        simp [entR]
        omega
      rw [h2]
      rfl
    simp [execOp, Instr.entry, hx, hgo, MapKept.run_getObj_map hb, hf, entR]
end
end Go.Proofs.Ytldkjjnjdjfipaa
