/- P15f: sums by key: a table, and what comes out of sorted records. Plain. -/
import Derived.Test.YtldkjjnjdjfipaaP15e
import Derived.Test.YtldkjjnjdjfipaaP14d
import Derived.Test.YtldkjjnjdjfipaaMap1
namespace Go.Proofs.Ytldkjjnjdjfipaa
open Go Go.RowKit
set_option linter.unusedVariables false
set_option linter.unusedSimpArgs false
theorem ixM_none {l : KV} {k : Int64} (h : ixM l k = none) : ∀ p ∈ l, ¬ p.1 = k := by
  induction l with
  | nil => intro p hp; cases hp
  | cons x l ih =>
    obtain ⟨a, v⟩ := x
    unfold ixM at h
    split at h
    · cases h
    · rename_i hka
      rw [Option.map_eq_none_iff] at h
      intro p hp
      rcases List.mem_cons.1 hp with rfl | hp
      · exact fun e => hka e.symm
      · exact ih h p hp
theorem lkM_nil (k : Int64) : lkM [] k = none := rfl
theorem lkM_cons (a v : Int64) (l : KV) (k : Int64) : lkM ((a, v) :: l) k = if k = a then some v else lkM l k := by
  unfold lkM
  conv => lhs; unfold ixM
  split
  · rfl
  · cases ixM l k <;> rfl
theorem lkM_app (l z : KV) (k : Int64) : lkM (l ++ z) k = match lkM l k with | some v => some v | none => lkM z k := by
  induction l with
  | nil => rfl
  | cons x l ih =>
    obtain ⟨a, v⟩ := x
    rw [List.cons_append, lkM_cons, lkM_cons, ih]
    split <;> rfl
theorem lkM_set : ∀ (l : KV) (k v k' : Int64) (p : Nat × Int64), ixM l k = some p → lkM (l.set p.1 (k, v)) k' = if k' = k then some v else lkM l k'
  | [], k, v, k', p, h => by cases h
  | (a, x) :: l, k, v, k', p, h => by
    unfold ixM at h
    split at h
    · rename_i hka
      cases h
      rw [List.set_cons_zero, lkM_cons, lkM_cons, hka]
      split <;> rfl
    · rename_i hka
      rw [Option.map_eq_some_iff] at h
      obtain ⟨q, hq, rfl⟩ := h
      rw [List.set_cons_succ, lkM_cons, lkM_cons, lkM_set l k v k' q hq]
      by_cases e : k' = a
      · rw [if_pos e, if_pos e, if_neg (fun e2 => hka (e2.symm.trans e))]
      · rw [if_neg e, if_neg e]
theorem lkM_upM (l : KV) (k v k' : Int64) : lkM (upM l k v) k' = if k' = k then some v else lkM l k' := by
  unfold upM
  cases hi : ixM l k with
  | none =>
    show lkM (l ++ [(k, v)]) k' = _
    rw [lkM_app, lkM_cons, lkM_nil]
    by_cases e : k' = k
    · subst e
      rw [if_pos rfl, if_pos rfl]
      have : lkM l k' = none := by unfold lkM; rw [hi]; rfl
      rw [this]
    · rw [if_neg e, if_neg e]
      cases lkM l k' <;> rfl
  | some p => exact lkM_set l k v k' p hi
def KN (l : KV) : Prop := (l.map (·.1)).Nodup
theorem lkM_none {l : KV} {k : Int64} (h : ∀ p ∈ l, ¬ p.1 = k) : lkM l k = none := by
  induction l with
  | nil => rfl
  | cons x l ih =>
    obtain ⟨a, v⟩ := x
    rw [lkM_cons, if_neg (fun e => h _ List.mem_cons_self e.symm)]
    exact ih fun p hp => h p (List.mem_cons_of_mem _ hp)
theorem kn_upM {l : KV} {k v : Int64} (h : KN l) : KN (upM l k v) := by
  unfold upM
  cases hi : ixM l k with
  | none =>
    show ((l ++ [(k, v)]).map (·.1)).Nodup
    rw [List.map_append]
    refine List.nodup_append.2 ⟨h, by simp, fun a ha b hb => ?_⟩
    obtain ⟨p, hp, rfl⟩ := List.mem_map.1 ha
    simp at hb
    subst hb
    exact ixM_none hi p hp
  | some p =>
    show ((l.set p.1 (k, v)).map (·.1)).Nodup
    have e : (l.set p.1 (k, v)).map (·.1) = l.map (·.1) := by
      apply List.ext_getElem?
      intro j
      rw [List.getElem?_map, List.getElem?_map, List.getElem?_set]
      by_cases hj : p.1 = j
      · subst hj
        rw [ixM_at hi]
        simp [ixM_lt hi]
      · simp [hj]
    rw [e]
    exact h
theorem lkM_erase : ∀ (l : KV) (k k' : Int64) (p : Nat × Int64), KN l → ixM l k = some p → lkM (l.eraseIdx p.1) k' = if k' = k then none else lkM l k'
  | [], k, k', p, hn, h => by cases h
  | (a, x) :: l, k, k', p, hn, h => by
    unfold KN at hn
    rw [List.map_cons, List.nodup_cons] at hn
    unfold ixM at h
    split at h
    · rename_i hka
      cases h
      subst hka
      rw [List.eraseIdx_cons_zero, lkM_cons]
      by_cases e : k' = k
      · rw [if_pos e, e]
        exact lkM_none fun p hp e2 => hn.1 (List.mem_map.2 ⟨p, hp, e2⟩)
      · rw [if_neg e, if_neg e]
    · rename_i hka
      rw [Option.map_eq_some_iff] at h
      obtain ⟨q, hq, rfl⟩ := h
      rw [List.eraseIdx_cons_succ, lkM_cons, lkM_cons, lkM_erase l k k' q hn.2 hq]
      by_cases e : k' = a
      · rw [if_pos e, if_pos e, if_neg (fun e2 => hka (e2.symm.trans e))]
      · rw [if_neg e, if_neg e]
theorem lkM_dlM {l : KV} (h : KN l) (k k' : Int64) : lkM (dlM l k) k' = if k' = k then none else lkM l k' := by
  unfold dlM
  cases hi : ixM l k with
  | none =>
    show lkM l k' = _
    split
    · subst_vars; unfold lkM; rw [hi]; rfl
    · rfl
  | some p => exact lkM_erase l k k' p h hi
theorem kn_dlM {l : KV} {k : Int64} (h : KN l) : KN (dlM l k) := by
  unfold dlM
  cases ixM l k with
  | none => exact h
  | some p =>
    show ((l.eraseIdx p.1).map (·.1)).Nodup
    exact List.Nodup.sublist ((List.eraseIdx_sublist l p.1).map _) h
theorem lkM_all {l : KV} (h : ∀ k, lkM l k = none) : l.length = 0 := by
  cases l with
  | nil => rfl
  | cons x l =>
    obtain ⟨a, v⟩ := x
    have := h a
    rw [lkM_cons, if_pos rfl] at this
    cases this
/-- sums by key -/
abbrev addF (b : Bool) : Int64 → Int64 → Int64 := fun v x => v + x
def TI (T : KV) (l : List Rec) : Prop := KN T ∧ ∀ k, lkM T k = fldK (fun v x => v + x) k l
theorem tI_0 : TI [] [] := ⟨List.nodup_nil, fun k => rfl⟩
theorem tI_dead {T : KV} {l : List Rec} {i : Nat} (h : TI T (l.take i)) (hi : i < l.length) (hd : (l.getD i default).dead = true) : TI T (l.take (i + 1)) := by
  rw [List.getD_eq_getElem?_getD, List.getElem?_eq_getElem hi, Option.getD_some] at hd
  rw [List.take_succ_eq_append_getElem hi]
  exact ⟨h.1, fun k => by rw [fldK_no (fun e => by rw [hd] at e; cases e.1)]; exact h.2 k⟩
theorem tI_live {T : KV} {l : List Rec} {i : Nat} (h : TI T (l.take i)) (hi : i < l.length) (hd : (l.getD i default).dead = false) : TI (upM T (l.getD i default).key ((lkM T (l.getD i default).key).getD 0 + (l.getD i default).value)) (l.take (i + 1)) := by
  have e : l.getD i default = l[i] := by rw [List.getD_eq_getElem?_getD, List.getElem?_eq_getElem hi, Option.getD_some]
  rw [e] at hd ⊢
  rw [List.take_succ_eq_append_getElem hi]
  refine ⟨kn_upM h.1, fun k => ?_⟩
  rw [lkM_upM]
  by_cases hk : k = l[i].key
  · subst hk
    rw [if_pos rfl, fldK_yes ⟨hd, rfl⟩, h.2]
    cases fldK (fun v x => v + x) l[i].key (l.take i) <;> simp
  · rw [if_neg hk, fldK_no (fun e2 => hk e2.2.symm)]
    exact h.2 k
theorem fold1_add (vs : List Int64) : fold1 (fun v x => v + x) vs = if vs = [] then none else some (vs.foldl (fun v x => v + x) 0) := by
  cases vs with
  | nil => rfl
  | cons v vs => simp [fold1]
theorem fold1_perm {a b : List Int64} (h : a.Perm b) : fold1 (fun v x => v + x) a = fold1 (fun v x => v + x) b := by
  rw [fold1_add, fold1_add]
  have e : a.foldl (fun v x => v + x) (0 : Int64) = b.foldl (fun v x => v + x) 0 := h.foldl_eq' (fun x _ y _ z => by rw [Int64.add_assoc, Int64.add_comm x y, ← Int64.add_assoc]) 0
  rw [e]
  by_cases ha : a = []
  · subst ha; rw [List.nil_perm.1 h]
  · have hb : b ≠ [] := fun hb => ha (by subst hb; exact List.perm_nil.1 h)
    rw [if_neg ha, if_neg hb]
theorem fldK_perm {k : Int64} {S T : List Rec} (h : S.Perm T) : fldK (fun v x => v + x) k S = fldK (fun v x => v + x) k T := fold1_perm ((h.filter _).map _)
theorem sum_F (v x : Int64) : doneC (chkB 1 [] [Opc.mk 2 0 0 1 0 0] []) [Opc.mk 2 0 0 1 0 0] v x = v + x := by
  unfold doneC
  rw [if_pos (by decide +kernel)]
  rfl
theorem sum_G (v x : Int64) : doneC (chkB 1 [] [Opc.mk 2 0 0 1 0 0] []) [] v x = v := by
  unfold doneC
  rw [if_pos (by decide +kernel)]
  rfl
def sumX (l : List Rec) : List Rec := stepO (chkB 1 [] [Opc.mk 2 0 0 1 0 0] []) [Opc.mk 2 0 0 1 0 0] [] (Rec.mk true 0 0 0) (isort true l ++ [Rec.mk true 0 0 0])
theorem sumX_out (l : List Rec) : OutI (fun v x => v + x) (fun v _ => v) l (alv (sumX l)) ∧ (stepC (chkB 1 [] [Opc.mk 2 0 0 1 0 0] []) [Opc.mk 2 0 0 1 0 0] [] (Rec.mk true 0 0 0) (isort true l ++ [Rec.mk true 0 0 0])).dead = true := by
  have hs : Srt true (isort true l ++ [Rec.mk true 0 0 0]) := srt_snoc (by rw [isort_eq]; exact srt_msort true l) rfl
  have h := outI_of (b := chkB 1 [] [Opc.mk 2 0 0 1 0 0] []) (f := [Opc.mk 2 0 0 1 0 0]) (g := []) hs (fun x hx => by rw [List.getLast?_concat] at hx; cases hx; rfl)
  have e : chkB 1 [] [Opc.mk 2 0 0 1 0 0] [] = true := by decide +kernel
  have hF : doneC (chkB 1 [] [Opc.mk 2 0 0 1 0 0] []) [Opc.mk 2 0 0 1 0 0] = fun v x => v + x := funext fun v => funext fun x => sum_F v x
  have hG : doneC (chkB 1 [] [Opc.mk 2 0 0 1 0 0] []) [] = fun v _ => v := funext fun v => funext fun x => sum_G v x
  rw [hF, hG] at h
  have hp : ∀ k, fldK (fun v x => v + x) k (isort true l ++ [Rec.mk true 0 0 0]) = fldK (fun v x => v + x) k l := fun k => by
    rw [fldK_no (fun e => by cases e.1), isort_eq]
    exact fldK_perm (msort_perm true l)
  have hx : sumX l = (run15 (chkB 1 [] [Opc.mk 2 0 0 1 0 0] []) [Opc.mk 2 0 0 1 0 0] [] ([], deadR) (isort true l ++ [Rec.mk true 0 0 0])).1 := by
    unfold sumX stepO
    rw [if_pos e]
    rfl
  refine ⟨⟨?_, fun p hp2 => ?_, fun k hk => ?_⟩, ?_⟩
  · rw [hx]; exact h.1.asc
  · rw [hx] at hp2
    obtain ⟨v, h1, h2⟩ := h.1.val p hp2
    exact ⟨v, by rw [← hp]; exact h1, h2⟩
  · rw [hx]; exact h.1.all k (by rw [hp]; exact hk)
  · unfold stepC
    rw [if_pos e]
    show (normC (run15 _ _ _ ([], deadR) _).2).dead = true
    unfold normC
    rw [if_neg (by rw [h.2]; decide)]
    rfl
def DI (T : KV) (l x : List Rec) (i : Nat) : Prop := KN T ∧ ∀ k, lkM T k = if k ∈ (alv (x.take i)).map (·.1) then none else fldK (fun v x => v + x) k l
theorem dI_0 {T : KV} {l x : List Rec} (h : TI T l) : DI T l x 0 := ⟨h.1, fun k => by rw [h.2]; rfl⟩
theorem alv_take {x : List Rec} {i : Nat} (hi : i < x.length) : alv (x.take (i + 1)) = alv (x.take i) ++ if (x.getD i default).dead = false then [((x.getD i default).key, (x.getD i default).value)] else [] := by
  have e : x.getD i default = x[i] := by rw [List.getD_eq_getElem?_getD, List.getElem?_eq_getElem hi, Option.getD_some]
  rw [List.take_succ_eq_append_getElem hi, alv_app, e]
  congr 1
  unfold alv
  cases h : x[i].dead <;> simp [h]
theorem dI_dead {T : KV} {l x : List Rec} {i : Nat} (h : DI T l x i) (hi : i < x.length) (hd : (x.getD i default).dead = true) : DI T l x (i + 1) := by
  refine ⟨h.1, fun k => ?_⟩
  have e : alv (x.take (i + 1)) = alv (x.take i) := by rw [alv_take hi, if_neg (by rw [hd]; decide), List.append_nil]
  rw [e]
  exact h.2 k
theorem dI_at {T : KV} {l x : List Rec} {i : Nat} (h : DI T l x i) (ho : OutI (fun v x => v + x) (fun v _ => v) l (alv x)) (hi : i < x.length) (hd : (x.getD i default).dead = false) :
    (lkM T (x.getD i default).key).isSome = true ∧ (lkM T (x.getD i default).key).getD 0 = (x.getD i default).value ∧ DI (dlM T (x.getD i default).key) l x (i + 1) := by
  have hx : alv x = alv (x.take (i + 1)) ++ alv (x.drop (i + 1)) := by rw [← alv_app, List.take_append_drop]
  have ha := ho.asc
  rw [hx, alv_take hi, if_pos hd] at ha
  have ha2 := (List.pairwise_append.1 (List.pairwise_append.1 ha).1).2.2
  have hni : (x.getD i default).key ∉ (alv (x.take i)).map (·.1) := fun hm => by
    obtain ⟨p, hp, e⟩ := List.mem_map.1 hm
    have : p.1.toInt < (x.getD i default).key.toInt := ha2 p hp _ (List.mem_singleton.2 rfl)
    rw [e] at this
    omega
  obtain ⟨v, h1, h2⟩ := ho.val ((x.getD i default).key, (x.getD i default).value) (by rw [hx, alv_take hi, if_pos hd]; simp)
  have h3 : lkM T (x.getD i default).key = some v := by rw [h.2, if_neg hni]; exact h1
  refine ⟨by rw [h3]; rfl, by rw [h3]; exact h2.symm, kn_dlM h.1, fun k => ?_⟩
  rw [lkM_dlM h.1, alv_take hi, if_pos hd, h.2]
  by_cases e : k = (x.getD i default).key
  · rw [if_pos e, if_pos]
    rw [List.map_append]
    exact List.mem_append_right _ (by simp [e])
  · rw [if_neg e]
    by_cases e2 : k ∈ (alv (x.take i)).map (·.1)
    · rw [if_pos e2, if_pos]
      rw [List.map_append]
      exact List.mem_append_left _ e2
    · rw [if_neg e2, if_neg]
      rw [List.map_append, List.mem_append]
      rintro (h5 | h5)
      · exact e2 h5
      · simp at h5; exact e h5
theorem dI_end {T : KV} {l x : List Rec} {i : Nat} (h : DI T l x i) (ho : OutI (fun v x => v + x) (fun v _ => v) l (alv x)) (hi : x.length ≤ i) : T.length = 0 := by
  refine lkM_all fun k => ?_
  rw [h.2, List.take_of_length_le hi]
  split
  · rfl
  · rename_i hk
    cases hz : fldK (fun v x => v + x) k l with
    | none => rfl
    | some v => exact absurd (ho.all k (by rw [hz]; rfl)) hk
end Go.Proofs.Ytldkjjnjdjfipaa
