/- A small program logic of our own over the kit's walk 'wpIn': frames as functions, the heap as a list of resources with disjoint footprints. It states nothing of the program. -/
import Derived.WalkKit
import Derived.WalkSpells
import Derived.WalkLawsBesides
import Derived.TacticsIn
import Derived.OrdersIn
import Derived.RangeFuncIn
import Derived.RangeFuncLeaves
import Derived.RangeFuncRecord
import Derived.KernelRfl
namespace Go.Proofs.Ytldkjjnjdjfipaa
open Go Go.RowKit
set_option linter.unusedVariables false
set_option linter.unusedSimpArgs false

/-- The fence that lets everything in, for an activation ('none') or for a round of a range over a function. -/
def FW (r : Option Nat) : Fence := { fn := fun _ => True, depth := none, alive := false, round := r }

/-! ### Frames -/
abbrev Fr := Nat → Value
def upd (σ : Fr) (d : Nat) (v : Value) : Fr := fun i => bif Nat.beq i d then v else σ i
def fr0 : Fr := fun _ => undef
theorem upd_same (σ : Fr) (d : Nat) (v : Value) : upd σ d v d = v := by simp [upd]
theorem upd_ne (σ : Fr) {d i : Nat} (v : Value) (h : i ≠ d) : upd σ d v i = σ i := by
  have : Nat.beq i d = false := by cases hb : Nat.beq i d with | false => rfl | true => exact absurd (Nat.eq_of_beq_eq_true hb) h
  simp [upd, this]

/-- The deferred marks that ranges over functions leave. -/
def mkD (r : Nat) : Deferred := { target := .collected r, args := #[] }

structure FrOK (n : Nat) (ds : List Nat) (σ : Fr) (a : Act) : Prop where
  defers : a.defers = ds.map mkD
  size : a.tmps.size = n
  get : ∀ i, a.tmps.getD i undef = σ i

def ev (σ : Fr) : Operand → Value
  | .tmp t => σ t
  | .const v => v
  | .global g => .pointer (some ⟨g, 0, none⟩)
  | .func f => .func (.func f) #[] #[]

theorem FrOK.ev {n : Nat} {ds : List Nat} {σ : Fr} {a : Act} (h : FrOK n ds σ a) (x : Operand) : a.eval x = ev σ x := by
  cases x with
  | tmp t => exact h.get t
  | const v => rfl
  | global g => rfl
  | func f => rfl

theorem FrOK.ev' {n : Nat} {ds : List Nat} {σ : Fr} {a : Act} (h : FrOK n ds σ a) : a.eval = Go.Proofs.Ytldkjjnjdjfipaa.ev σ := funext h.ev

theorem FrOK.put {n : Nat} {ds : List Nat} {σ : Fr} {a : Act} (h : FrOK n ds σ a) {d : Nat} (hd : Nat.blt d n = true) (v : Value) : FrOK n ds (upd σ d v) (a.put (some d) v) := by
  have hd' : d < n := by simpa using hd
  refine ⟨h.defers, by simp [Act.put, h.size], fun i => ?_⟩
  have hg := h.get i
  by_cases hi : i = d
  · subst hi
    simp [Act.put, upd_same, Array.getD, h.size, hd']
  · rw [upd_ne _ _ hi, ← hg]
    simp only [Act.put, Array.getD_eq_getD_getElem?]
    rw [Array.getElem?_setIfInBounds_ne (fun e => hi e.symm)]

/-! ### Resources -/
structure Res where
  fp : List Nat
  ok : World → Prop
  loc : ∀ w w' : World, (∀ b, b ∈ fp → w'.heap[b]? = w.heap[b]?) → ok w → ok w'

/-- A block of the call's own. -/
def blk (b : Nat) (o : Obj) : Res := ⟨[b], fun w => w.heap[b]? = some o, fun _ _ h hw => (h b (by simp)).trans hw⟩
/-- .. of cells. -/
def cel (b : Nat) (t : TypeId) (l : List Value) : Res := blk b (.cells l.toArray t (0, 0))
/-- The block of a range's deferred calls. -/
def dfr (b : Nat) : Res := blk b (.deferred (some []))
/-- A fact on the heap at some blocks. -/
def fct (fp : List Nat) (p : World → Prop) (h : ∀ w w' : World, (∀ b, b ∈ fp → w'.heap[b]? = w.heap[b]?) → p w → p w') : Res := ⟨fp, p, h⟩

/-- The world 'w' out of 'w0': what was there is as it was, but for the blocks D; and the resources L hold, on footprints apart. -/
structure SH (w0 : World) (D : List Nat) (L : List Res) (w : World) : Prop where
  os : w.os = w0.os
  tape : w.tape = w0.tape
  output : w.output = w0.output
  size : w0.heap.size ≤ w.heap.size
  old : ∀ k, k < w0.heap.size → k ∉ D → w.heap[k]? = w0.heap[k]?
  ok : ∀ p ∈ L, p.ok w
  own : ∀ p ∈ L, ∀ b ∈ p.fp, (w0.heap.size ≤ b ∨ b ∈ D) ∧ b < w.heap.size
  disj : L.Pairwise (fun p q => ∀ b ∈ p.fp, b ∉ q.fp)

theorem SH.start (w : World) : SH w [] [] w := ⟨rfl, rfl, rfl, Nat.le_refl _, fun _ _ _ => rfl, fun _ h => (by cases h), fun _ h => (by cases h), List.Pairwise.nil⟩

theorem SH.below {w0 w : World} {L : List Res} (h : SH w0 [] L w) : Below w0.heap.size w0 w :=
  ⟨h.os, h.tape, h.output, h.size, fun k hk => h.old k hk (by simp)⟩

theorem SH.of_below {w0 w : World} (h : Below w0.heap.size w0 w) : SH w0 [] [] w :=
  ⟨h.os, h.tape, h.output, h.size, fun k hk _ => h.block k hk, fun _ h => (by cases h), fun _ h => (by cases h), List.Pairwise.nil⟩

theorem SH.drew {w0 w : World} {D : List Nat} {L : List Res} (h : SH w0 D L w) : SH w0 D L { w with drawn := w.drawn + 1 } :=
  ⟨h.os, h.tape, h.output, h.size, h.old, fun p hp => p.loc w _ (fun _ _ => rfl) (h.ok p hp), h.own, h.disj⟩

/-- Whatever is no owned block and was there stays: the frame of what another call has done. 'A' is what it was lent. -/
theorem SH.frame {w0 w w' : World} {D : List Nat} {A A' L : List Res} (h : SH w0 D (A ++ L) w) (h' : SH w (A.flatMap Res.fp) A' w') : SH w0 D (A' ++ L) w' := by
  have hA : ∀ b, b ∈ A.flatMap Res.fp → (w0.heap.size ≤ b ∨ b ∈ D) ∧ b < w.heap.size := fun b hb => by
    obtain ⟨p, hp, hb'⟩ := List.mem_flatMap.1 hb
    exact h.own p (List.mem_append_left _ hp) b hb'
  have hd := List.pairwise_append.1 h.disj
  have hAL : ∀ q ∈ L, ∀ b ∈ q.fp, b ∉ A.flatMap Res.fp := fun q hq b hb hb' => by
    obtain ⟨p, hp, hb''⟩ := List.mem_flatMap.1 hb'
    exact hd.2.2 p hp q hq b hb'' hb
  refine ⟨h'.os.trans h.os, h'.tape.trans h.tape, h'.output.trans h.output, Nat.le_trans h.size h'.size, ?_, ?_, ?_, ?_⟩
  · intro k hk hkD
    rw [h'.old k (Nat.lt_of_lt_of_le hk h.size) (fun hm => ?_), h.old k hk hkD]
    rcases (hA k hm).1 with h1 | h1
    · omega
    · exact hkD h1
  · intro p hp
    rcases List.mem_append.1 hp with hp | hp
    · exact h'.ok p hp
    · exact p.loc w w' (fun b hb => h'.old b (h.own p (List.mem_append_right _ hp) b hb).2 (hAL p hp b hb)) (h.ok p (List.mem_append_right _ hp))
  · intro p hp b hb
    rcases List.mem_append.1 hp with hp | hp
    · have := h'.own p hp b hb
      refine ⟨?_, this.2⟩
      rcases this.1 with h1 | h1
      · exact .inl (Nat.le_trans h.size h1)
      · exact (hA b h1).1
    · have := h.own p (List.mem_append_right _ hp) b hb
      exact ⟨this.1, Nat.lt_of_lt_of_le this.2 h'.size⟩
  · refine List.pairwise_append.2 ⟨h'.disj, hd.2.1, fun p hp q hq b hb hb' => ?_⟩
    rcases (h'.own p hp b hb).1 with h1 | h1
    · have := (h.own q (List.mem_append_right _ hq) b hb').2
      omega
    · exact hAL q hq b hb' h1

/-- Nothing lent. -/
theorem SH.frame0 {w0 w w' : World} {D : List Nat} {A' L : List Res} (h : SH w0 D L w) (h' : SH w [] A' w') : SH w0 D (A' ++ L) w' := SH.frame (A := []) h h'

/-! ### Picking a resource -/
inductive Pick : List Res → Res → List Res → Prop
  | h {p : Res} {L : List Res} : Pick (p :: L) p L
  | t {p q : Res} {L M : List Res} (h : Pick L p M) : Pick (q :: L) p (q :: M)

theorem Pick.perm {L M : List Res} {p : Res} (h : Pick L p M) : L.Perm (p :: M) := by
  induction h with
  | h => exact .refl _
  | t _ ih => exact (List.Perm.cons _ ih).trans (List.Perm.swap _ _ _)

theorem SH.perm {w0 w : World} {D : List Nat} {L M : List Res} (h : SH w0 D L w) (hp : L.Perm M) : SH w0 D M w :=
  ⟨h.os, h.tape, h.output, h.size, h.old, fun p hm => h.ok p (hp.mem_iff.2 hm), fun p hm => h.own p (hp.mem_iff.2 hm),
    (hp.pairwise_iff (fun {x y} hxy b hb hb' => hxy b hb' hb)).1 h.disj⟩

theorem SH.pick {w0 w : World} {D : List Nat} {L M : List Res} {p : Res} (h : SH w0 D L w) (hp : Pick L p M) : SH w0 D (p :: M) w := h.perm hp.perm

theorem SH.get {w0 w : World} {D : List Nat} {L M : List Res} {p : Res} (h : SH w0 D L w) (hp : Pick L p M) : p.ok w := (h.pick hp).ok p (by simp)

theorem SH.drop {w0 w : World} {D : List Nat} {L : List Res} {p : Res} (h : SH w0 D (p :: L) w) : SH w0 D L w :=
  ⟨h.os, h.tape, h.output, h.size, h.old, fun q hq => h.ok q (List.mem_cons_of_mem _ hq), fun q hq => h.own q (List.mem_cons_of_mem _ hq), (List.pairwise_cons.1 h.disj).2⟩

/-- What q says p says, on no more blocks. -/
def Res.le (p q : Res) : Prop := (∀ b, b ∈ q.fp → b ∈ p.fp) ∧ ∀ w, p.ok w → q.ok w
theorem Res.le_refl (p : Res) : p.le p := ⟨fun _ h => h, fun _ h => h⟩

/-- L has all of M (some of it may be let go, or said more weakly). -/
inductive Ent : List Res → List Res → Prop
  | nil {L : List Res} : Ent L []
  | w {L M N : List Res} {p q : Res} (hp : Pick L p M) (hle : p.le q) (h : Ent M N) : Ent L (q :: N)
theorem Ent.p {L M N : List Res} {p : Res} (hp : Pick L p M) (h : Ent M N) : Ent L (p :: N) := .w hp (Res.le_refl _) h
theorem Ent.refl : (L : List Res) → Ent L L
  | [] => .nil
  | _ :: L => .p .h (Ent.refl L)

theorem SH.weaken {w0 w : World} {D : List Nat} {L : List Res} {p q : Res} (h : SH w0 D (p :: L) w) (hle : p.le q) : SH w0 D (q :: L) w := by
  have hd := List.pairwise_cons.1 h.disj
  refine ⟨h.os, h.tape, h.output, h.size, h.old, ?_, ?_, ?_⟩
  · intro r hr
    rcases List.mem_cons.1 hr with rfl | hr
    · exact hle.2 w (h.ok p (by simp))
    · exact h.ok r (List.mem_cons_of_mem _ hr)
  · intro r hr b hb
    rcases List.mem_cons.1 hr with rfl | hr
    · exact h.own p (by simp) b (hle.1 b hb)
    · exact h.own r (List.mem_cons_of_mem _ hr) b hb
  · exact List.pairwise_cons.2 ⟨fun r hr b hb => hd.1 r hr b (hle.1 b hb), hd.2⟩

theorem SH.dropAll {w0 w : World} {D : List Nat} {L : List Res} : (X : List Res) → SH w0 D (X ++ L) w → SH w0 D L w
  | [], h => h
  | _ :: X, h => SH.dropAll X h.drop

theorem SH.entX {w0 w : World} {D : List Nat} {L M : List Res} (he : Ent L M) : ∀ (X : List Res), SH w0 D (X ++ L) w → SH w0 D (X ++ M) w := by
  induction he with
  | nil =>
    intro X h
    rw [List.append_nil]
    exact SH.dropAll _ (h.perm List.perm_append_comm)
  | @w L M N p q hp hle _ ih =>
    intro X h
    have h1 : SH w0 D ((p :: X) ++ M) w := h.perm (((List.Perm.append_left X hp.perm)).trans (List.perm_middle))
    have h2 := ih (p :: X) h1
    have h3 : SH w0 D (q :: (X ++ N)) w := SH.weaken (p := p) h2 hle
    exact h3.perm List.perm_middle.symm

theorem SH.ent {w0 w : World} {D : List Nat} {L M : List Res} (h : SH w0 D L w) (he : Ent L M) : SH w0 D M w := SH.entX he [] h

/-! ### The walk's predicate -/
abbrev Post := Exit → List Nat → Fr → List Res → Prop

def toQ (w0 : World) (D : List Nat) (n : Nat) (Q : Post) : Exit → Act → World → Prop :=
  fun e a w => ∃ ds σ L, FrOK n ds σ a ∧ SH w0 D L w ∧ Q e ds σ L

def wpS (P : Program) (w0 : World) (D : List Nat) (n : Nat) (r : Option Nat) (c : Code) (Q : Post) (ds : List Nat) (σ : Fr) (L : List Res) : Prop :=
  ∀ a w, FrOK n ds σ a → SH w0 D L w → c.wpIn (FW r) 0 P (toQ w0 D n Q) a w

section rules
variable {P : Program} {w0 : World} {D : List Nat} {n : Nat} {r : Option Nat} {Q : Post} {ds : List Nat} {σ : Fr} {L : List Res}

theorem wpS_mono {c : Code} {Q' : Post} (hq : ∀ e ds σ L, Q e ds σ L → Q' e ds σ L) (h : wpS P w0 D n r c Q ds σ L) : wpS P w0 D n r c Q' ds σ L :=
  fun a w hf hs => wpIn_mono (h a w hf hs) fun e a w ⟨ds, σ, L, h1, h2, h3⟩ => ⟨ds, σ, L, h1, h2, hq _ _ _ _ h3⟩

theorem wpS_ent {c : Code} {M : List Res} (he : Ent L M) (h : wpS P w0 D n r c Q ds σ M) : wpS P w0 D n r c Q ds σ L :=
  fun a w hf hs => h a w hf (hs.ent he)

theorem wpS_skip (h : Q .normal ds σ L) : wpS P w0 D n r .skip Q ds σ L := fun _ _ hf hs => wpIn_skip ⟨_, _, _, hf, hs, h⟩
theorem wpS_label {l : Nat} (h : Q .normal ds σ L) : wpS P w0 D n r (.label l) Q ds σ L := fun _ _ hf hs => wpIn_label ⟨_, _, _, hf, hs, h⟩
theorem wpS_exit {id : Nat} (h : Q (.exit id) ds σ L) : wpS P w0 D n r (.exit id) Q ds σ L := fun _ _ hf hs => wpIn_exit ⟨_, _, _, hf, hs, h⟩
theorem wpS_ret (h : Q .ret ds σ L) : wpS P w0 D n r .ret Q ds σ L := fun _ _ hf hs => wpIn_ret ⟨_, _, _, hf, hs, h⟩

/-- What is asked at the end of the first of two. -/
def thenS (K : List Nat → Fr → List Res → Prop) (Q : Post) : Post
  | .normal, ds, σ, L => K ds σ L
  | e, ds, σ, L => Q e ds σ L

theorem wpS_seq {x y : Code} (h : wpS P w0 D n r x (thenS (wpS P w0 D n r y Q) Q) ds σ L) : wpS P w0 D n r (.seq x y) Q ds σ L :=
  fun a w hf hs => wpIn_seq (wpIn_mono (h a w hf hs) fun e a w hq => by
    obtain ⟨ds', σ', L', h1, h2, h3⟩ := hq
    cases e <;> first | exact h3 a w h1 h2 | exact ⟨ds', σ', L', h1, h2, h3⟩)

/-- .. the second one walked once, from a statement of what is known there. -/
theorem wpS_cut {x y : Code} (R : List Nat → Fr → List Res → Prop) (h : wpS P w0 D n r x (thenS R Q) ds σ L) (h2 : ∀ ds σ L, R ds σ L → wpS P w0 D n r y Q ds σ L) :
    wpS P w0 D n r (.seq x y) Q ds σ L :=
  wpS_seq (wpS_mono (fun e ds σ L hq => by cases e <;> first | exact h2 _ _ _ hq | exact hq) h)

theorem wpS_cond {c : Operand} {x y : Code} {t : Bool} (hc : ev σ c = .bool t) (ht : t = true → wpS P w0 D n r x Q ds σ L) (hf : t = false → wpS P w0 D n r y Q ds σ L) :
    wpS P w0 D n r (.cond c x y) Q ds σ L :=
  fun a w h hs => wpIn_cond_split ((h.ev c).trans hc) (fun e => ht e a w h hs) (fun e => hf e a w h hs)
theorem wpS_cond_t {c : Operand} {x y : Code} (hc : ev σ c = .bool true) (ht : wpS P w0 D n r x Q ds σ L) : wpS P w0 D n r (.cond c x y) Q ds σ L :=
  wpS_cond hc (fun _ => ht) (fun h => by cases h)
theorem wpS_cond_f {c : Operand} {x y : Code} (hc : ev σ c = .bool false) (hf : wpS P w0 D n r y Q ds σ L) : wpS P w0 D n r (.cond c x y) Q ds σ L :=
  wpS_cond hc (fun h => by cases h) (fun _ => hf)
/-- the test's Bool known by a hypothesis -/
theorem wpS_cond_T {c : Operand} {x y : Code} {t : Bool} (hc : ev σ c = .bool t) (hT : t = true) (ht : wpS P w0 D n r x Q ds σ L) : wpS P w0 D n r (.cond c x y) Q ds σ L :=
  wpS_cond hc (fun _ => ht) (fun h => by rw [hT] at h; cases h)
theorem wpS_cond_F {c : Operand} {x y : Code} {t : Bool} (hc : ev σ c = .bool t) (hF : t = false) (hf : wpS P w0 D n r y Q ds σ L) : wpS P w0 D n r (.cond c x y) Q ds σ L :=
  wpS_cond hc (fun h => by rw [hF] at h; cases h) (fun _ => hf)

def blockS (id : Nat) (Q : Post) : Post
  | .exit id', ds, σ, L => bif Nat.beq id' id then Q .normal ds σ L else Q (.exit id') ds σ L
  | e, ds, σ, L => Q e ds σ L

theorem wpS_block {id : Nat} {c : Code} (h : wpS P w0 D n r c (blockS id Q) ds σ L) : wpS P w0 D n r (.block id c) Q ds σ L :=
  fun a w hf hs => wpIn_block (wpIn_mono (h a w hf hs) fun e a w hq => by
    obtain ⟨ds', σ', L', h1, h2, h3⟩ := hq
    cases e with
    | exit id' =>
      by_cases hid : id' = id
      · subst hid
        simp only [blockS, Nat.beq_refl, cond_true] at h3
        simp only [Exit.inBlock, if_true]
        exact ⟨ds', σ', L', h1, h2, h3⟩
      · have hb : Nat.beq id' id = false := by cases hb : Nat.beq id' id with | false => rfl | true => exact absurd (Nat.eq_of_beq_eq_true hb) hid
        simp only [blockS, hb, cond_false] at h3
        simp only [Exit.inBlock, hid, if_false]
        exact ⟨ds', σ', L', h1, h2, h3⟩
    | _ => exact ⟨ds', σ', L', h1, h2, h3⟩)

/-- A loop: a relation with a number that every round lowers. -/
theorem wpS_loop {c : Code} (I : Nat → List Nat → Fr → List Res → Prop) {m0 : Nat} (h0 : I m0 ds σ L)
    (step : ∀ m ds σ L, I m ds σ L → wpS P w0 D n r c (thenS (fun ds σ L => ∃ m', m' < m ∧ I m' ds σ L) Q) ds σ L) : wpS P w0 D n r (.loop c) Q ds σ L := by
  intro a w hf hs
  intro b k cs hro hb hr
  have key : ∀ m ds σ L a w, I m ds σ L → FrOK n ds σ a → SH w0 D L w →
      ∃ e a' w', toQ w0 D n Q e a' w' ∧ ArrivesIn (Machine.fenced P (FW r)) P (lone (b.atR a (.code c :: .inLoop c :: k)) cs w) b k cs e a' w' := by
    intro m
    induction m using Nat.strongRecOn with
    | _ m ih =>
      intro ds σ L a w hI hf hs
      obtain ⟨e, a₁, w₁, ⟨ds₁, σ₁, L₁, hf₁, hs₁, hq⟩, harr⟩ := step m ds σ L hI a w hf hs b (.inLoop c :: k) cs hro hb hr
      cases e with
      | normal =>
        obtain ⟨m', hlt, hI'⟩ := hq
        obtain ⟨e₂, a₂, w₂, hq₂, harr₂⟩ := ih m' hlt ds₁ σ₁ L₁ a₁ w₁ hI' hf₁ hs₁
        exact ⟨e₂, a₂, w₂, hq₂, .of_steps (StepsIn.trans harr (.one (fenced_calm hb hr rfl) stepR_inLoop)) harr₂⟩
      | exit id => exact ⟨_, a₁, w₁, ⟨_, _, _, hf₁, hs₁, hq⟩, .pass (x := .inLoop c) rfl (fun _ _ => .inl (by simp)) harr⟩
      | goto l => exact ⟨_, a₁, w₁, ⟨_, _, _, hf₁, hs₁, hq⟩, .pass (x := .inLoop c) rfl (fun _ _ => .inl (by simp)) harr⟩
      | ret => exact ⟨_, a₁, w₁, ⟨_, _, _, hf₁, hs₁, hq⟩, .pass (x := .inLoop c) rfl (fun _ _ => .inl (by simp)) harr⟩
      | panic ch => exact ⟨_, a₁, w₁, ⟨_, _, _, hf₁, hs₁, hq⟩, .pass (x := .inLoop c) rfl (fun _ _ => .inl (by simp)) harr⟩
      | outgrown => exact ⟨_, a₁, w₁, ⟨_, _, _, hf₁, hs₁, hq⟩, .pass (x := .inLoop c) rfl (fun _ _ => .inl (by simp)) harr⟩
  obtain ⟨e, a', w', hq, harr⟩ := key _ _ _ _ a w h0 hf hs
  exact ⟨e, a', w', hq, .of_steps (.one (fenced_calm hb hr rfl) stepR_loop) harr⟩

theorem stepR_scope' {b : Frame} {a : Act} {k : List Item} {cs : List Frame} {w : World} {c : Code} : step P (lone (b.atR a (.code (.scope c) :: k)) cs w) = .next (lone (b.atR a (.code c :: .inScope c :: k)) cs w) :=
  step_lone_go (by simp [stepG, stepG.exec, Frame.atR])
theorem stepR_inScope' {b : Frame} {a : Act} {k : List Item} {cs : List Frame} {w : World} {c : Code} : step P (lone (b.atR a (.inScope c :: k)) cs w) = .next (lone (b.atR a k) cs w) :=
  step_lone_go (by simp [stepG, stepG.exec, Frame.atR])

/-- In a scope whose labels nobody jumps to. -/
def scopeS (Q : Post) : Post
  | .goto _, _, _, _ => False
  | e, ds, σ, L => Q e ds σ L

theorem wpS_scope {c : Code} (h : wpS P w0 D n r c (scopeS Q) ds σ L) : wpS P w0 D n r (.scope c) Q ds σ L := by
  intro a w hf hs b k cs hro hb hr
  have h0 : (lone (b.atR a (.code (.scope c) :: k)) cs w).fenced P (FW r) := fenced_calm hb hr rfl
  obtain ⟨e, a₁, w₁, ⟨ds₁, σ₁, L₁, hf₁, hs₁, hq⟩, harr⟩ := h a w hf hs b (.inScope c :: k) cs hro hb hr
  cases e with
  | normal => exact ⟨.normal, a₁, w₁, ⟨_, _, _, hf₁, hs₁, hq⟩, .head h0 stepR_scope' (StepsIn.trans harr (.one (fenced_calm hb hr rfl) stepR_inScope'))⟩
  | exit id =>
    have hx : exitTo id (.inScope c :: k) = exitTo id k := by simp [exitTo]
    exact ⟨.exit id, a₁, w₁, ⟨_, _, _, hf₁, hs₁, hq⟩, fun k' hk => .head h0 stepR_scope' (harr.1 k' (by rw [hx]; exact hk)),
      fun hr' hk => let ⟨k₁, h1, h2⟩ := harr.2 hr' (by rw [hx]; exact hk); ⟨k₁, h1, .head h0 stepR_scope' h2⟩⟩
  | goto l => exact hq.elim
  | ret => exact ⟨_, a₁, w₁, ⟨_, _, _, hf₁, hs₁, hq⟩, .of_steps (.one h0 stepR_scope') harr⟩
  | panic ch => exact ⟨_, a₁, w₁, ⟨_, _, _, hf₁, hs₁, hq⟩, .of_steps (.one h0 stepR_scope') harr⟩
  | outgrown => exact ⟨_, a₁, w₁, ⟨_, _, _, hf₁, hs₁, hq⟩, .of_steps (.one h0 stepR_scope') harr⟩

/-! ways out of what stands around -/
theorem thenS_n {K : List Nat → Fr → List Res → Prop} (h : K ds σ L) : thenS K Q .normal ds σ L := h
theorem thenS_x {K : List Nat → Fr → List Res → Prop} {id : Nat} (h : Q (.exit id) ds σ L) : thenS K Q (.exit id) ds σ L := h
theorem thenS_r {K : List Nat → Fr → List Res → Prop} (h : Q .ret ds σ L) : thenS K Q .ret ds σ L := h
theorem blockS_n {id : Nat} (h : Q .normal ds σ L) : blockS id Q .normal ds σ L := h
theorem blockS_r {id : Nat} (h : Q .ret ds σ L) : blockS id Q .ret ds σ L := h
theorem blockS_h {id : Nat} (h : Q .normal ds σ L) : blockS id Q (.exit id) ds σ L := by simp only [blockS, Nat.beq_refl, cond_true]; exact h
theorem blockS_m {id id' : Nat} (hb : Nat.beq id' id = false) (h : Q (.exit id') ds σ L) : blockS id Q (.exit id') ds σ L := by simp only [blockS, hb, cond_false]; exact h
theorem scopeS_n (h : Q .normal ds σ L) : scopeS Q .normal ds σ L := h
theorem scopeS_r (h : Q .ret ds σ L) : scopeS Q .ret ds σ L := h
theorem scopeS_x {id : Nat} (h : Q (.exit id) ds σ L) : scopeS Q (.exit id) ds σ L := h
end rules

/-! ### The whole function -/
def evRV (σ : Fr) : ResultVar → Sem Value
  | .tmp t => pure (σ t)
  | .cell a t => do loadVar t (← asAddr (σ a))

def resS (fn : Func) (σ : Fr) : Sem Value := do
  let vs ← fn.results.mapM (evRV σ)
  pure (if h : vs.size = 1 then vs[0] else .tuple vs)

theorem results_eq {fn : Func} {n : Nat} {ds : List Nat} {σ : Fr} {a : Act} (h : FrOK n ds σ a) : results fn a.tmps = resS fn σ := by
  unfold results resS
  congr 1
  congr 1
  funext x
  cases x with
  | tmp t => simp only [evRV, h.get]
  | cell b t => simp only [evRV, h.get]

theorem SH.closeDfr {w0 w : World} {D : List Nat} {L : List Res} {r : Nat} (h : SH w0 D (dfr r :: L) w) : SH w0 D L (w.putObj r (.deferred none)) := by
  have hr := h.own (dfr r) (by simp) r (by simp [dfr, blk])
  have hd := List.pairwise_cons.1 h.disj
  have hne : ∀ k, k ≠ r → (w.putObj r (.deferred none)).heap[k]? = w.heap[k]? := fun k hk => by
    simp only [World.putObj]
    rw [Array.getElem?_setIfInBounds_ne (fun e => hk e.symm)]
  have hsz : (w.putObj r (.deferred none)).heap.size = w.heap.size := by simp [World.putObj]
  refine ⟨h.os, h.tape, h.output, by rw [hsz]; exact h.size, ?_, ?_, ?_, hd.2⟩
  · intro k hk hkD
    rw [hne k (fun e => ?_), h.old k hk hkD]
    subst e
    rcases hr.1 with h1 | h1
    · omega
    · exact hkD h1
  · intro p hp
    refine p.loc w _ (fun b hb => hne b (fun e => ?_)) (h.ok p (List.mem_cons_of_mem _ hp))
    subst e
    exact hd.1 p hp b (by simp [dfr, blk]) hb
  · intro p hp b hb
    rw [hsz]
    exact h.own p (List.mem_cons_of_mem _ hp) b hb

theorem leaves_ds {P : Program} {fn : Func} {tmps : Array Value} {R : Ending → World → Prop} {w0 : World} {D : List Nat} {M : List Res} (ds : List Nat) : ∀ (w : World), SH w0 D (ds.map dfr ++ M) w →
    (∀ w', SH w0 D M w' → ∃ v, (results fn tmps).run P w' = .ok v w' ∧ R (.returned v) w') → LeavesInM Fence.wide 0 P fn tmps R (ds.map mkD) .returning w := by
  induction ds with
  | nil =>
    intro w hs h
    exact h w hs
  | cons r ds ih =>
    intro w hs h
    have hs' : SH w0 D (dfr r :: (ds.map dfr ++ M)) w := hs
    exact ⟨by simp, .inl ⟨r, _, rfl, run_takeDeferred (hs'.ok (dfr r) (by simp)), ih _ hs'.closeDfr h⟩⟩

/-- A call's contract out of its body's walk: D: what it was lent, A: as what. -/
theorem calls_of_wpS {P : Program} {f : FuncId} {fn : Func} {c : Code} {args : Array Value} {w : World} {R : Ending → World → Prop} {n : Nat} {σ0 : Fr} {D : List Nat} {A : List Res}
    (hf : P.funcs[f]? = some fn) (hb : fn.body = some c) (hn : fn.ntmps = n) (hsz : args.size ≤ n)
    (hσ : ∀ i, args.getD i undef = σ0 i) (hA : SH w D A w)
    (h : wpS P w D n none c (fun e ds σ L => (e = .normal ∨ e = .ret) ∧ ∃ M, Ent L (ds.map dfr ++ M) ∧ ∀ w', SH w D M w' → ∃ v, (resS fn σ).run P w' = .ok v w' ∧ R (.returned v) w') [] σ0 A) :
    Calls P f args w R := by
  refine (callsIn_wide (n := 0)).1 ?_
  refine callsIn_of_wp_marks hf hb trivial ?_ rfl
  refine wpIn_mono (h _ w ⟨rfl, ?_, fun i => ?_⟩ hA) ?_
  · simp [hn]; omega
  · rw [← hσ i]
    simp only [Array.getD_eq_getD_getElem?, hn]
    by_cases hi : i < args.size
    · rw [Array.getElem?_append_left hi]
    · rw [Array.getElem?_append_right (by omega), Array.getElem?_eq_none (by omega : args.size ≤ i)]
      by_cases hi' : i - args.size < n - args.size
      · simp [Array.getElem?_replicate, hi']
      · simp [Array.getElem?_replicate, hi']
  · rintro e a w' ⟨ds, σ, L, hfr, hs, he, M, hent, hR⟩
    have hleave : LeavesInM Fence.wide 0 P fn a.tmps R a.defers .returning w' := by
      rw [hfr.defers]
      exact leaves_ds ds w' (hs.ent hent) (fun w'' hw => by rw [results_eq hfr]; exact hR w'' hw)
    rcases he with rfl | rfl <;> exact hleave


theorem a0_fr : ∀ i, (#[] : Array Value).getD i undef = fr0 i := fun i => by simp [Array.getD, fr0]
theorem a1_fr (v0 : Value) : ∀ i, #[v0].getD i undef = upd fr0 0 v0 i
  | 0 => rfl
  | i + 1 => by rw [Array.getD_eq_getD_getElem?, Array.getElem?_eq_none (by simp)]; simp [upd, fr0, Nat.beq]
theorem a2_fr (v0 v1 : Value) : ∀ i, #[v0, v1].getD i undef = upd (upd fr0 0 v0) 1 v1 i
  | 0 => rfl
  | 1 => rfl
  | i + 2 => by rw [Array.getD_eq_getD_getElem?, Array.getElem?_eq_none (by simp)]; simp [upd, fr0, Nat.beq]
theorem a3_fr (v0 v1 v2 : Value) : ∀ i, #[v0, v1, v2].getD i undef = upd (upd (upd fr0 0 v0) 1 v1) 2 v2 i
  | 0 => rfl
  | 1 => rfl
  | 2 => rfl
  | i + 3 => by rw [Array.getD_eq_getD_getElem?, Array.getElem?_eq_none (by simp)]; simp [upd, fr0, Nat.beq]
theorem a4_fr (v0 v1 v2 v3 : Value) : ∀ i, #[v0, v1, v2, v3].getD i undef = upd (upd (upd (upd fr0 0 v0) 1 v1) 2 v2) 3 v3 i
  | 0 => rfl
  | 1 => rfl
  | 2 => rfl
  | 3 => rfl
  | i + 4 => by rw [Array.getD_eq_getD_getElem?, Array.getElem?_eq_none (by simp)]; simp [upd, fr0, Nat.beq]
theorem a5_fr (v0 v1 v2 v3 v4 : Value) : ∀ i, #[v0, v1, v2, v3, v4].getD i undef = upd (upd (upd (upd (upd fr0 0 v0) 1 v1) 2 v2) 3 v3) 4 v4 i
  | 0 => rfl
  | 1 => rfl
  | 2 => rfl
  | 3 => rfl
  | 4 => rfl
  | i + 5 => by rw [Array.getD_eq_getD_getElem?, Array.getElem?_eq_none (by simp)]; simp [upd, fr0, Nat.beq]

/-! the end of a function -/
section
variable {P : Program} {w : World} {D ds : List Nat} {σ : Fr} {L M : List Res} {fn : Func} {R : Ending → World → Prop} {e : Exit}
def finS (P : Program) (w : World) (D : List Nat) (fn : Func) (R : Ending → World → Prop) : Post :=
  fun e ds σ L => (e = .normal ∨ e = .ret) ∧ ∃ M, Ent L (ds.map dfr ++ M) ∧ ∀ w', SH w D M w' → ∃ v, (resS fn σ).run P w' = .ok v w' ∧ R (.returned v) w'

theorem calls_S {f : FuncId} {c : Code} {args : Array Value} {n : Nat} {σ0 : Fr} {A : List Res} (hf : P.funcs[f]? = some fn) (hb : fn.body = some c) (hn : fn.ntmps = n) (hsz : Nat.ble args.size n = true)
    (hσ : ∀ i, args.getD i undef = σ0 i) (hA : SH w D A w) (h : wpS P w D n none c (finS P w D fn R) [] σ0 A) : Calls P f args w R := calls_of_wpS hf hb hn (Nat.le_of_ble_eq_true hsz) hσ hA h

theorem fin0 (he : e = .normal ∨ e = .ret) (hE : Ent L (ds.map dfr ++ M)) (hr : fn.results = #[]) (hR : ∀ w', SH w D M w' → R (.returned (.tuple #[])) w') : finS P w D fn R e ds σ L :=
  ⟨he, M, hE, fun w' hs => ⟨_, by simp [resS, hr], hR w' hs⟩⟩
theorem fin1 {t : Tmp} {v : Value} (he : e = .normal ∨ e = .ret) (hE : Ent L (ds.map dfr ++ M)) (hr : fn.results = #[.tmp t]) (hv : σ t = v) (hR : ∀ w', SH w D M w' → R (.returned v) w') : finS P w D fn R e ds σ L :=
  ⟨he, M, hE, fun w' hs => ⟨v, by simp [resS, hr, evRV, hv], hR w' hs⟩⟩
/-- results one by one -/
theorem fin1' {x : ResultVar} {v : Value} (he : e = .normal ∨ e = .ret) (hE : Ent L (ds.map dfr ++ M)) (hr : fn.results = #[x]) (hv : ∀ w', SH w D M w' → (evRV σ x).run P w' = .ok v w') (hR : ∀ w', SH w D M w' → R (.returned v) w') : finS P w D fn R e ds σ L :=
  ⟨he, M, hE, fun w' hs => ⟨v, by simp [resS, hr, hv w' hs], hR w' hs⟩⟩
theorem fin2 {x y : ResultVar} {u v : Value} (he : e = .normal ∨ e = .ret) (hE : Ent L (ds.map dfr ++ M)) (hr : fn.results = #[x, y]) (hu : ∀ w', SH w D M w' → (evRV σ x).run P w' = .ok u w') (hv : ∀ w', SH w D M w' → (evRV σ y).run P w' = .ok v w')
    (hR : ∀ w', SH w D M w' → R (.returned (.tuple #[u, v])) w') : finS P w D fn R e ds σ L :=
  ⟨he, M, hE, fun w' hs => ⟨_, by simp [resS, hr, hu w' hs, hv w' hs], hR w' hs⟩⟩
theorem fin3 {x y z : ResultVar} {u v t : Value} (he : e = .normal ∨ e = .ret) (hE : Ent L (ds.map dfr ++ M)) (hr : fn.results = #[x, y, z]) (hu : ∀ w', SH w D M w' → (evRV σ x).run P w' = .ok u w') (hv : ∀ w', SH w D M w' → (evRV σ y).run P w' = .ok v w')
    (ht : ∀ w', SH w D M w' → (evRV σ z).run P w' = .ok t w') (hR : ∀ w', SH w D M w' → R (.returned (.tuple #[u, v, t])) w') : finS P w D fn R e ds σ L :=
  ⟨he, M, hE, fun w' hs => ⟨_, by simp [resS, hr, hu w' hs, hv w' hs, ht w' hs], hR w' hs⟩⟩
theorem rvT {t : Tmp} {v : Value} (h : σ t = v) : ∀ w', SH w D M w' → (evRV σ (.tmp t)).run P w' = .ok v w' := fun w' _ => by simp [evRV, h]
end

end Go.Proofs.Ytldkjjnjdjfipaa
