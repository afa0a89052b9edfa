/- P15e: sorted records, folded along: each key comes out once. Plain. -/
import Derived.Test.YtldkjjnjdjfipaaP15c
import Derived.Test.YtldkjjnjdjfipaaP14g
namespace Go.Proofs.Ytldkjjnjdjfipaa
open Go Go.RowKit
set_option linter.unusedVariables false
set_option linter.unusedSimpArgs false
/-- the values of a key, in order -/
def valK (k : Int64) (S : List Rec) : List Int64 := (S.filter fun r => decide (r.dead = false ∧ r.key = k)).map (·.value)
def fold1 (F : Int64 → Int64 → Int64) : List Int64 → Option Int64
  | [] => none
  | v :: vs => some (vs.foldl F v)
def fldK (F : Int64 → Int64 → Int64) (k : Int64) (S : List Rec) : Option Int64 := fold1 F (valK k S)
theorem fold1_app (F : Int64 → Int64 → Int64) (vs : List Int64) (x : Int64) : fold1 F (vs ++ [x]) = some (match fold1 F vs with | none => x | some v => F v x) := by
  cases vs with
  | nil => rfl
  | cons v vs => simp [fold1]
theorem valK_app (k : Int64) (S T : List Rec) : valK k (S ++ T) = valK k S ++ valK k T := by simp [valK]
theorem valK_one {k : Int64} {r : Rec} : valK k [r] = if r.dead = false ∧ r.key = k then [r.value] else [] := by
  unfold valK
  rw [List.filter_cons]
  by_cases h : r.dead = false ∧ r.key = k <;> simp [h]
theorem fldK_no {F : Int64 → Int64 → Int64} {k : Int64} {S : List Rec} {r : Rec} (h : ¬ (r.dead = false ∧ r.key = k)) : fldK F k (S ++ [r]) = fldK F k S := by
  unfold fldK
  rw [valK_app, valK_one, if_neg h, List.append_nil]
theorem fldK_yes {F : Int64 → Int64 → Int64} {k : Int64} {S : List Rec} {r : Rec} (h : r.dead = false ∧ r.key = k) : fldK F k (S ++ [r]) = some (match fldK F k S with | none => r.value | some v => F v r.value) := by
  unfold fldK
  rw [valK_app, valK_one, if_pos h, fold1_app]
theorem fold1_none {F : Int64 → Int64 → Int64} {vs : List Int64} : fold1 F vs = none ↔ vs = [] := by cases vs <;> simp [fold1]
theorem fldK_mem {F : Int64 → Int64 → Int64} {k : Int64} {S : List Rec} : (fldK F k S).isSome = true ↔ ∃ a ∈ S, a.dead = false ∧ a.key = k := by
  unfold fldK valK
  rw [← Option.ne_none_iff_isSome, Ne, fold1_none, List.map_eq_nil_iff, List.filter_eq_nil_iff]
  simp
def alv (os : List Rec) : List (Int64 × Int64) := (os.filter fun r => !r.dead).map fun r => (r.key, r.value)
theorem alv_app (a b : List Rec) : alv (a ++ b) = alv a ++ alv b := by simp [alv]
theorem alv_dead : alv [deadR] = [] := rfl
theorem alv_live (k v s : Int64) : alv [⟨false, k, v, s⟩] = [(k, v)] := rfl
theorem rk_alive {sq : Bool} {a r : Rec} (h : rk sq a ≤ rk sq r) (hr : r.dead = false) : a.dead = false ∧ a.key.toInt ≤ r.key.toInt := by
  have h1 := i64_bd a.key
  have h2 := i64_bd r.key
  have h3 := i64_bd a.seq
  have h4 := i64_bd r.seq
  unfold rk at h
  rw [hr] at h
  cases ha : a.dead <;> rw [ha] at h <;> cases sq <;> simp at h
  · exact ⟨rfl, h⟩
  · exact ⟨rfl, by omega⟩
  · omega
  · omega
structure RunI (F G : Int64 → Int64 → Int64) (S : List Rec) (O : List (Int64 × Int64)) (cq : Rec) : Prop where
  cur : cq.dead = false → fldK F cq.key S = some cq.value
  asc : O.Pairwise fun a b => a.1.toInt < b.1.toInt
  lt : cq.dead = false → ∀ p ∈ O, p.1.toInt < cq.key.toInt
  val : ∀ p ∈ O, ∃ v, fldK F p.1 S = some v ∧ p.2 = G v p.1
  all : ∀ k, (fldK F k S).isSome = true → k ∈ O.map (·.1) ∨ (cq.dead = false ∧ k = cq.key)
  dd : cq.dead = true → S = [] ∨ ∃ d ∈ S, d.dead = true
theorem runI_0 (F G : Int64 → Int64 → Int64) : RunI F G [] [] deadR :=
  ⟨fun h => (by cases h), List.Pairwise.nil, fun h => (by cases h), fun p h => (by cases h), fun k h => (by simp [fldK, valK, fold1] at h), fun _ => .inl rfl⟩
theorem runI_step {sq b : Bool} {f g : List Opc} {S : List Rec} {O : List (Int64 × Int64)} {cq r : Rec} (h : RunI (doneC b f) (doneC b g) S O cq) (hs : ∀ a ∈ S, rk sq a ≤ rk sq r) :
    RunI (doneC b f) (doneC b g) (S ++ [r]) (O ++ alv [(cstp b f g cq r).1]) (cstp b f g cq r).2 := by
  cases hr : r.dead
  · have hal : ∀ a ∈ S, a.dead = false ∧ a.key.toInt ≤ r.key.toInt := fun a ha => rk_alive (hs a ha) hr
    cases hc : cq.dead
    · have hcur := h.cur hc
      by_cases hk : r.key = cq.key
      · rw [cstp_1 hr hc hk, alv_dead, List.append_nil]
        have hne : ∀ p ∈ O, ¬ (r.dead = false ∧ r.key = p.1) := fun p hp e => by
          have := h.lt hc p hp
          rw [← e.2, hk] at this
          omega
        refine ⟨fun _ => ?_, h.asc, fun _ => h.lt hc, fun p hp => ?_, fun k hk2 => ?_, fun e => ?_⟩
        · show fldK _ cq.key _ = _
          rw [fldK_yes ⟨hr, hk⟩, hcur]
        · obtain ⟨v, h1, h2⟩ := h.val p hp
          exact ⟨v, by rw [fldK_no (hne p hp)]; exact h1, h2⟩
        · by_cases e : r.key = k
          · exact .inr ⟨hc, by rw [← e]; exact hk⟩
          · rw [fldK_no (fun q => e q.2)] at hk2
            rcases h.all k hk2 with h3 | h3
            · exact .inl h3
            · exact .inr ⟨hc, h3.2⟩
        · exact absurd (show cq.dead = true from e) (by rw [hc]; decide)
      · rw [cstp_d hr hc hk, alv_live]
        obtain ⟨a0, ha0, hd0, hk0⟩ := fldK_mem.1 (by rw [hcur]; rfl : (fldK (doneC b f) cq.key S).isSome = true)
        have hlt : cq.key.toInt < r.key.toInt := by
          have h1 := (hal a0 ha0).2
          rw [hk0] at h1
          have h2 : cq.key.toInt ≠ r.key.toInt := fun e => hk (Int64.toInt_inj.1 e).symm
          omega
        have hnone : fldK (doneC b f) r.key S = none := by
          cases hz : fldK (doneC b f) r.key S with
          | none => rfl
          | some v =>
            rcases h.all r.key (by rw [hz]; rfl) with h3 | h3
            · obtain ⟨p, hp, e⟩ := List.mem_map.1 h3
              have := h.lt hc p hp
              rw [e] at this
              omega
            · exact absurd h3.2 hk
        refine ⟨fun _ => ?_, ?_, fun _ p hp => ?_, fun p hp => ?_, fun k hk2 => ?_, fun e => ?_⟩
        · show fldK _ r.key _ = some r.value
          rw [fldK_yes ⟨hr, rfl⟩, hnone]
        · refine List.pairwise_append.2 ⟨h.asc, by simp, fun a ha c hc2 => ?_⟩
          rw [List.mem_singleton] at hc2
          subst hc2
          exact h.lt hc a ha
        · show p.1.toInt < r.key.toInt
          rcases List.mem_append.1 hp with hp | hp
          · have := h.lt hc p hp; omega
          · rw [List.mem_singleton] at hp; subst hp; exact hlt
        · rcases List.mem_append.1 hp with hp | hp
          · obtain ⟨v, h1, h2⟩ := h.val p hp
            refine ⟨v, ?_, h2⟩
            rw [fldK_no]
            · exact h1
            · intro e
              have := h.lt hc p hp
              rw [← e.2] at this
              omega
          · rw [List.mem_singleton] at hp
            subst hp
            exact ⟨cq.value, by rw [fldK_no (fun e => hk e.2)]; exact hcur, rfl⟩
        · by_cases e : r.key = k
          · exact .inr ⟨rfl, e.symm⟩
          · rw [fldK_no (fun q => e q.2)] at hk2
            refine .inl ?_
            rw [List.map_append, List.mem_append]
            rcases h.all k hk2 with h3 | h3
            · exact .inl h3
            · exact .inr (by simp [h3.2])
        · cases e
    · have hS : S = [] := by
        rcases h.dd hc with h1 | ⟨d, h1, h2⟩
        · exact h1
        · have := (hal d h1).1
          rw [h2] at this
          cases this
      have hO : O = [] := by
        cases hO : O with
        | nil => rfl
        | cons p O' =>
          obtain ⟨v, h1, -⟩ := h.val p (by rw [hO]; exact List.mem_cons_self)
          rw [hS] at h1
          simp [fldK, valK, fold1] at h1
      subst hS hO
      rw [cstp_c hr hc, alv_dead, List.append_nil]
      refine ⟨fun _ => ?_, List.Pairwise.nil, fun _ p hp => (by cases hp), fun p hp => (by cases hp), fun k hk2 => ?_, fun e => (by cases e)⟩
      · show fldK _ r.key _ = some r.value
        rw [fldK_yes ⟨hr, rfl⟩]
        rfl
      · obtain ⟨a, ha, -, e⟩ := fldK_mem.1 hk2
        rw [List.nil_append, List.mem_singleton] at ha
        subst ha
        exact .inr ⟨rfl, e.symm⟩
  · have hno : ∀ k, fldK (doneC b f) k (S ++ [r]) = fldK (doneC b f) k S := fun k => fldK_no (fun e => by rw [hr] at e; cases e.1)
    cases hc : cq.dead
    · rw [cstp_b hr hc, alv_live]
      refine ⟨fun e => (by cases e), ?_, fun e => (by cases e), fun p hp => ?_, fun k hk2 => ?_, fun _ => .inr ⟨r, by simp, hr⟩⟩
      · refine List.pairwise_append.2 ⟨h.asc, by simp, fun a ha c hc2 => ?_⟩
        rw [List.mem_singleton] at hc2
        subst hc2
        exact h.lt hc a ha
      · rw [hno]
        rcases List.mem_append.1 hp with hp | hp
        · exact h.val p hp
        · rw [List.mem_singleton] at hp
          subst hp
          exact ⟨cq.value, h.cur hc, rfl⟩
      · rw [hno] at hk2
        refine .inl ?_
        rw [List.map_append, List.mem_append]
        rcases h.all k hk2 with h3 | h3
        · exact .inl h3
        · exact .inr (by simp [h3.2])
    · rw [cstp_a hr hc, alv_dead, List.append_nil]
      refine ⟨fun e => (by cases e), h.asc, fun e => (by cases e), fun p hp => (by rw [hno]; exact h.val p hp), fun k hk2 => ?_, fun _ => .inr ⟨r, by simp, hr⟩⟩
      rw [hno] at hk2
      rcases h.all k hk2 with h3 | h3
      · exact .inl h3
      · rw [hc] at h3; cases h3.1
theorem runI_all {sq b : Bool} {f g : List Opc} {s : List Rec} (hs : Srt sq s) : ∀ i, i ≤ s.length → RunI (doneC b f) (doneC b g) (s.take i) (alv (run15 b f g ([], deadR) (s.take i)).1) (run15 b f g ([], deadR) (s.take i)).2
  | 0, _ => runI_0 _ _
  | i + 1, h => by
    have ih := runI_all (b := b) (f := f) (g := g) hs i (by omega)
    rw [List.take_succ_eq_append_getElem (by omega), run15_app]
    have hst := runI_step (sq := sq) (r := s[i]) ih (fun a ha => by
      obtain ⟨j, hj, rfl⟩ := List.getElem_of_mem ha
      rw [List.getElem_take]
      rw [List.length_take] at hj
      exact List.pairwise_iff_getElem.1 hs j i (by omega) (by omega) (by omega))
    have e : run15 b f g (run15 b f g ([], deadR) (s.take i)) [s[i]] = ((run15 b f g ([], deadR) (s.take i)).1 ++ [(cstp b f g (run15 b f g ([], deadR) (s.take i)).2 s[i]).1], (cstp b f g (run15 b f g ([], deadR) (s.take i)).2 s[i]).2) := rfl
    rw [e]
    show RunI _ _ _ (alv (_ ++ [_])) _
    rw [alv_app]
    exact hst
theorem srt_snoc {sq : Bool} {l : List Rec} {d : Rec} (h : Srt sq l) (hd : d.dead = true) : Srt sq (l ++ [d]) := by
  refine List.pairwise_append.2 ⟨h, by simp, fun a ha c hc => ?_⟩
  rw [List.mem_singleton] at hc
  subst hc
  have h1 := i64_bd a.key
  have h3 := i64_bd a.seq
  unfold rk
  rw [hd]
  cases a.dead <;> cases sq <;> simp <;> omega
/-- what comes out of sorted records whose last is dead -/
structure OutI (F G : Int64 → Int64 → Int64) (S : List Rec) (O : List (Int64 × Int64)) : Prop where
  asc : O.Pairwise fun a b => a.1.toInt < b.1.toInt
  val : ∀ p ∈ O, ∃ v, fldK F p.1 S = some v ∧ p.2 = G v p.1
  all : ∀ k, (fldK F k S).isSome = true → k ∈ O.map (·.1)
theorem outI_of {sq b : Bool} {f g : List Opc} {s : List Rec} (hs : Srt sq s) (hl : ∀ x, s.getLast? = some x → x.dead = true) : OutI (doneC b f) (doneC b g) s (alv (run15 b f g ([], deadR) s).1) ∧ (run15 b f g ([], deadR) s).2.dead = true := by
  have h := runI_all (b := b) (f := f) (g := g) hs s.length (Nat.le_refl _)
  rw [List.take_of_length_le (Nat.le_refl _)] at h
  have hd : (run15 b f g ([], deadR) s).2.dead = true := by
    cases e : s.getLast? with
    | none => rw [List.getLast?_eq_none_iff.1 e]; rfl
    | some x =>
      have hx := hl x e
      obtain ⟨t, rfl⟩ : ∃ t, s = t ++ [x] := by
        rw [List.getLast?_eq_some_iff] at e
        exact e
      rw [run15_app]
      show (cstp b f g (run15 b f g ([], deadR) t).2 x).2.dead = true
      cases hc : (run15 b f g ([], deadR) t).2.dead
      · rw [cstp_b hx hc]; rfl
      · rw [cstp_a hx hc]; rfl
  refine ⟨⟨h.asc, h.val, fun k hk => ?_⟩, hd⟩
  rcases h.all k hk with h1 | h1
  · exact h1
  · rw [hd] at h1; cases h1.1
end Go.Proofs.Ytldkjjnjdjfipaa
