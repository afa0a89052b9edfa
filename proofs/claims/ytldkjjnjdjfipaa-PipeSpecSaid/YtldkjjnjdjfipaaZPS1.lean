/- RPspec: a part of it: what its walk and its plain law need. -/
import Derived.WalkKit
import Derived.WalkSpells
import Derived.WalkLawsBesides
import Derived.TacticsIn
import Derived.OrdersIn
import Derived.RangeFuncIn
import Derived.RangeFuncLeaves
import Derived.RangeFuncRecord
import Derived.KernelRfl
import Derived.Maps.AppendAt
import Derived.Laws.Cover3
import Derived.Laws.MakeOwn
namespace Go.Proofs.Ytldkjjnjdjfipaa
open Go Go.RowKit
set_option linter.unusedVariables false
set_option linter.unusedSimpArgs false
def FW (r : Option Nat) : Fence := { fn := fun _ => True, depth := none, alive := false, round := r }
abbrev Fr := Nat → Value
def upd (σ : Fr) (d : Nat) (v : Value) : Fr := fun i => bif Nat.beq i d then v else σ i
def fr0 : Fr := fun _ => undef
theorem upd_same (σ : Fr) (d : Nat) (v : Value) : upd σ d v d = v := by simp [upd]
theorem upd_ne (σ : Fr) {d i : Nat} (v : Value) (h : i ≠ d) : upd σ d v i = σ i := by
  have : Nat.beq i d = false := by cases hb : Nat.beq i d with | false => rfl | true => exact absurd (Nat.eq_of_beq_eq_true hb) h
  simp [upd, this]
def mkD (r : Nat) : Deferred := { target := .collected r, args := #[] }
structure FrOK (n : Nat) (ds : List Nat) (σ : Fr) (a : Act) : Prop where
  defers : a.defers = ds.map mkD
  size : a.tmps.size = n
  get : ∀ i, a.tmps.getD i undef = σ i
def ev (σ : Fr) : Operand → Value
  | .tmp t => σ t
  | .const v => v
  | .global g => .pointer (some ⟨g, 0, none⟩)
  | .func f => .func (.func f) #[] #[]
theorem FrOK.ev {n : Nat} {ds : List Nat} {σ : Fr} {a : Act} (h : FrOK n ds σ a) (x : Operand) : a.eval x = ev σ x := by
  cases x with
  | tmp t => exact h.get t
  | const v => rfl
  | global g => rfl
  | func f => rfl
theorem FrOK.ev' {n : Nat} {ds : List Nat} {σ : Fr} {a : Act} (h : FrOK n ds σ a) : a.eval = Go.Proofs.Ytldkjjnjdjfipaa.ev σ := funext h.ev
theorem FrOK.put {n : Nat} {ds : List Nat} {σ : Fr} {a : Act} (h : FrOK n ds σ a) {d : Nat} (hd : Nat.blt d n = true) (v : Value) : FrOK n ds (upd σ d v) (a.put (some d) v) := by
  have hd' : d < n := by simpa using hd
  refine ⟨h.defers, by simp [Act.put, h.size], fun i => ?_⟩
  have hg := h.get i
  by_cases hi : i = d
  · subst hi
    simp [Act.put, upd_same, Array.getD, h.size, hd']
  · rw [upd_ne _ _ hi, ← hg]
    simp only [Act.put, Array.getD_eq_getD_getElem?]
    rw [Array.getElem?_setIfInBounds_ne (fun e => hi e.symm)]
structure Res where
  fp : List Nat
  ok : World → Prop
  loc : ∀ w w' : World, (∀ b, b ∈ fp → w'.heap[b]? = w.heap[b]?) → ok w → ok w'
def blk (b : Nat) (o : Obj) : Res := ⟨[b], fun w => w.heap[b]? = some o, fun _ _ h hw => (h b (by simp)).trans hw⟩
def cel (b : Nat) (t : TypeId) (l : List Value) : Res := blk b (.cells l.toArray t (0, 0))
def dfr (b : Nat) : Res := blk b (.deferred (some []))
structure SH (w0 : World) (D : List Nat) (L : List Res) (w : World) : Prop where
  os : w.os = w0.os
  tape : w.tape = w0.tape
  output : w.output = w0.output
  size : w0.heap.size ≤ w.heap.size
  old : ∀ k, k < w0.heap.size → k ∉ D → w.heap[k]? = w0.heap[k]?
  ok : ∀ p ∈ L, p.ok w
  own : ∀ p ∈ L, ∀ b ∈ p.fp, (w0.heap.size ≤ b ∨ b ∈ D) ∧ b < w.heap.size
  disj : L.Pairwise (fun p q => ∀ b ∈ p.fp, b ∉ q.fp)
theorem SH.start (w : World) : SH w [] [] w := ⟨rfl, rfl, rfl, Nat.le_refl _, fun _ _ _ => rfl, fun _ h => (by cases h), fun _ h => (by cases h), List.Pairwise.nil⟩
theorem SH.below {w0 w : World} {L : List Res} (h : SH w0 [] L w) : Below w0.heap.size w0 w :=
  ⟨h.os, h.tape, h.output, h.size, fun k hk => h.old k hk (by simp)⟩
theorem SH.drew {w0 w : World} {D : List Nat} {L : List Res} (h : SH w0 D L w) : SH w0 D L { w with drawn := w.drawn + 1 } :=
  ⟨h.os, h.tape, h.output, h.size, h.old, fun p hp => p.loc w _ (fun _ _ => rfl) (h.ok p hp), h.own, h.disj⟩
theorem SH.frame {w0 w w' : World} {D : List Nat} {A A' L : List Res} (h : SH w0 D (A ++ L) w) (h' : SH w (A.flatMap Res.fp) A' w') : SH w0 D (A' ++ L) w' := by
  have hA : ∀ b, b ∈ A.flatMap Res.fp → (w0.heap.size ≤ b ∨ b ∈ D) ∧ b < w.heap.size := fun b hb => by
    obtain ⟨p, hp, hb'⟩ := List.mem_flatMap.1 hb
    exact h.own p (List.mem_append_left _ hp) b hb'
  have hd := List.pairwise_append.1 h.disj
  have hAL : ∀ q ∈ L, ∀ b ∈ q.fp, b ∉ A.flatMap Res.fp := fun q hq b hb hb' => by
    obtain ⟨p, hp, hb''⟩ := List.mem_flatMap.1 hb'
    exact hd.2.2 p hp q hq b hb'' hb
  refine ⟨h'.os.trans h.os, h'.tape.trans h.tape, h'.output.trans h.output, Nat.le_trans h.size h'.size, ?_, ?_, ?_, ?_⟩
  · intro k hk hkD
    rw [h'.old k (Nat.lt_of_lt_of_le hk h.size) (fun hm => ?_), h.old k hk hkD]
    rcases (hA k hm).1 with h1 | h1
    · omega
    · exact hkD h1
  · intro p hp
    rcases List.mem_append.1 hp with hp | hp
    · exact h'.ok p hp
    · exact p.loc w w' (fun b hb => h'.old b (h.own p (List.mem_append_right _ hp) b hb).2 (hAL p hp b hb)) (h.ok p (List.mem_append_right _ hp))
  · intro p hp b hb
    rcases List.mem_append.1 hp with hp | hp
    · have := h'.own p hp b hb
      refine ⟨?_, this.2⟩
      rcases this.1 with h1 | h1
      · exact .inl (Nat.le_trans h.size h1)
      · exact (hA b h1).1
    · have := h.own p (List.mem_append_right _ hp) b hb
      exact ⟨this.1, Nat.lt_of_lt_of_le this.2 h'.size⟩
  · refine List.pairwise_append.2 ⟨h'.disj, hd.2.1, fun p hp q hq b hb hb' => ?_⟩
    rcases (h'.own p hp b hb).1 with h1 | h1
    · have := (h.own q (List.mem_append_right _ hq) b hb').2
      omega
    · exact hAL q hq b hb' h1
theorem SH.frame0 {w0 w w' : World} {D : List Nat} {A' L : List Res} (h : SH w0 D L w) (h' : SH w [] A' w') : SH w0 D (A' ++ L) w' := SH.frame (A := []) h h'
inductive Pick : List Res → Res → List Res → Prop
  | h {p : Res} {L : List Res} : Pick (p :: L) p L
  | t {p q : Res} {L M : List Res} (h : Pick L p M) : Pick (q :: L) p (q :: M)
theorem Pick.perm {L M : List Res} {p : Res} (h : Pick L p M) : L.Perm (p :: M) := by
  induction h with
  | h => exact .refl _
  | t _ ih => exact (List.Perm.cons _ ih).trans (List.Perm.swap _ _ _)
theorem SH.perm {w0 w : World} {D : List Nat} {L M : List Res} (h : SH w0 D L w) (hp : L.Perm M) : SH w0 D M w :=
  ⟨h.os, h.tape, h.output, h.size, h.old, fun p hm => h.ok p (hp.mem_iff.2 hm), fun p hm => h.own p (hp.mem_iff.2 hm),
    (hp.pairwise_iff (fun {x y} hxy b hb hb' => hxy b hb' hb)).1 h.disj⟩
theorem SH.pick {w0 w : World} {D : List Nat} {L M : List Res} {p : Res} (h : SH w0 D L w) (hp : Pick L p M) : SH w0 D (p :: M) w := h.perm hp.perm
theorem SH.get {w0 w : World} {D : List Nat} {L M : List Res} {p : Res} (h : SH w0 D L w) (hp : Pick L p M) : p.ok w := (h.pick hp).ok p (by simp)
theorem SH.drop {w0 w : World} {D : List Nat} {L : List Res} {p : Res} (h : SH w0 D (p :: L) w) : SH w0 D L w :=
  ⟨h.os, h.tape, h.output, h.size, h.old, fun q hq => h.ok q (List.mem_cons_of_mem _ hq), fun q hq => h.own q (List.mem_cons_of_mem _ hq), (List.pairwise_cons.1 h.disj).2⟩
def Res.le (p q : Res) : Prop := (∀ b, b ∈ q.fp → b ∈ p.fp) ∧ ∀ w, p.ok w → q.ok w
theorem Res.le_refl (p : Res) : p.le p := ⟨fun _ h => h, fun _ h => h⟩
inductive Ent : List Res → List Res → Prop
  | nil {L : List Res} : Ent L []
  | w {L M N : List Res} {p q : Res} (hp : Pick L p M) (hle : p.le q) (h : Ent M N) : Ent L (q :: N)
theorem Ent.p {L M N : List Res} {p : Res} (hp : Pick L p M) (h : Ent M N) : Ent L (p :: N) := .w hp (Res.le_refl _) h
theorem Ent.refl : (L : List Res) → Ent L L
  | [] => .nil
  | _ :: L => .p .h (Ent.refl L)
theorem SH.weaken {w0 w : World} {D : List Nat} {L : List Res} {p q : Res} (h : SH w0 D (p :: L) w) (hle : p.le q) : SH w0 D (q :: L) w := by
  have hd := List.pairwise_cons.1 h.disj
  refine ⟨h.os, h.tape, h.output, h.size, h.old, ?_, ?_, ?_⟩
  · intro r hr
    rcases List.mem_cons.1 hr with rfl | hr
    · exact hle.2 w (h.ok p (by simp))
    · exact h.ok r (List.mem_cons_of_mem _ hr)
  · intro r hr b hb
    rcases List.mem_cons.1 hr with rfl | hr
    · exact h.own p (by simp) b (hle.1 b hb)
    · exact h.own r (List.mem_cons_of_mem _ hr) b hb
  · exact List.pairwise_cons.2 ⟨fun r hr b hb => hd.1 r hr b (hle.1 b hb), hd.2⟩
theorem SH.dropAll {w0 w : World} {D : List Nat} {L : List Res} : (X : List Res) → SH w0 D (X ++ L) w → SH w0 D L w
  | [], h => h
  | _ :: X, h => SH.dropAll X h.drop
theorem SH.entX {w0 w : World} {D : List Nat} {L M : List Res} (he : Ent L M) : ∀ (X : List Res), SH w0 D (X ++ L) w → SH w0 D (X ++ M) w := by
  induction he with
  | nil =>
    intro X h
    rw [List.append_nil]
    exact SH.dropAll _ (h.perm List.perm_append_comm)
  | @w L M N p q hp hle _ ih =>
    intro X h
    have h1 : SH w0 D ((p :: X) ++ M) w := h.perm (((List.Perm.append_left X hp.perm)).trans (List.perm_middle))
    have h2 := ih (p :: X) h1
    have h3 : SH w0 D (q :: (X ++ N)) w := SH.weaken (p := p) h2 hle
    exact h3.perm List.perm_middle.symm
theorem SH.ent {w0 w : World} {D : List Nat} {L M : List Res} (h : SH w0 D L w) (he : Ent L M) : SH w0 D M w := SH.entX he [] h
abbrev Post := Exit → List Nat → Fr → List Res → Prop
def toQ (w0 : World) (D : List Nat) (n : Nat) (Q : Post) : Exit → Act → World → Prop :=
  fun e a w => ∃ ds σ L, FrOK n ds σ a ∧ SH w0 D L w ∧ Q e ds σ L
def wpS (P : Program) (w0 : World) (D : List Nat) (n : Nat) (r : Option Nat) (c : Code) (Q : Post) (ds : List Nat) (σ : Fr) (L : List Res) : Prop :=
  ∀ a w, FrOK n ds σ a → SH w0 D L w → c.wpIn (FW r) 0 P (toQ w0 D n Q) a w
section rules
variable {P : Program} {w0 : World} {D : List Nat} {n : Nat} {r : Option Nat} {Q : Post} {ds : List Nat} {σ : Fr} {L : List Res}
theorem wpS_mono {c : Code} {Q' : Post} (hq : ∀ e ds σ L, Q e ds σ L → Q' e ds σ L) (h : wpS P w0 D n r c Q ds σ L) : wpS P w0 D n r c Q' ds σ L :=
  fun a w hf hs => wpIn_mono (h a w hf hs) fun e a w ⟨ds, σ, L, h1, h2, h3⟩ => ⟨ds, σ, L, h1, h2, hq _ _ _ _ h3⟩
theorem wpS_ent {c : Code} {M : List Res} (he : Ent L M) (h : wpS P w0 D n r c Q ds σ M) : wpS P w0 D n r c Q ds σ L :=
  fun a w hf hs => h a w hf (hs.ent he)
theorem wpS_skip (h : Q .normal ds σ L) : wpS P w0 D n r .skip Q ds σ L := fun _ _ hf hs => wpIn_skip ⟨_, _, _, hf, hs, h⟩
theorem wpS_label {l : Nat} (h : Q .normal ds σ L) : wpS P w0 D n r (.label l) Q ds σ L := fun _ _ hf hs => wpIn_label ⟨_, _, _, hf, hs, h⟩
theorem wpS_exit {id : Nat} (h : Q (.exit id) ds σ L) : wpS P w0 D n r (.exit id) Q ds σ L := fun _ _ hf hs => wpIn_exit ⟨_, _, _, hf, hs, h⟩
theorem wpS_ret (h : Q .ret ds σ L) : wpS P w0 D n r .ret Q ds σ L := fun _ _ hf hs => wpIn_ret ⟨_, _, _, hf, hs, h⟩
def thenS (K : List Nat → Fr → List Res → Prop) (Q : Post) : Post
  | .normal, ds, σ, L => K ds σ L
  | e, ds, σ, L => Q e ds σ L
theorem wpS_seq {x y : Code} (h : wpS P w0 D n r x (thenS (wpS P w0 D n r y Q) Q) ds σ L) : wpS P w0 D n r (.seq x y) Q ds σ L :=
  fun a w hf hs => wpIn_seq (wpIn_mono (h a w hf hs) fun e a w hq => by
    obtain ⟨ds', σ', L', h1, h2, h3⟩ := hq
    cases e <;> first | exact h3 a w h1 h2 | exact ⟨ds', σ', L', h1, h2, h3⟩)
theorem wpS_cut {x y : Code} (R : List Nat → Fr → List Res → Prop) (h : wpS P w0 D n r x (thenS R Q) ds σ L) (h2 : ∀ ds σ L, R ds σ L → wpS P w0 D n r y Q ds σ L) :
    wpS P w0 D n r (.seq x y) Q ds σ L :=
  wpS_seq (wpS_mono (fun e ds σ L hq => by cases e <;> first | exact h2 _ _ _ hq | exact hq) h)
theorem wpS_cond {c : Operand} {x y : Code} {t : Bool} (hc : ev σ c = .bool t) (ht : t = true → wpS P w0 D n r x Q ds σ L) (hf : t = false → wpS P w0 D n r y Q ds σ L) :
    wpS P w0 D n r (.cond c x y) Q ds σ L :=
  fun a w h hs => wpIn_cond_split ((h.ev c).trans hc) (fun e => ht e a w h hs) (fun e => hf e a w h hs)
theorem wpS_cond_t {c : Operand} {x y : Code} (hc : ev σ c = .bool true) (ht : wpS P w0 D n r x Q ds σ L) : wpS P w0 D n r (.cond c x y) Q ds σ L :=
  wpS_cond hc (fun _ => ht) (fun h => by cases h)
theorem wpS_cond_f {c : Operand} {x y : Code} (hc : ev σ c = .bool false) (hf : wpS P w0 D n r y Q ds σ L) : wpS P w0 D n r (.cond c x y) Q ds σ L :=
  wpS_cond hc (fun h => by cases h) (fun _ => hf)
theorem wpS_cond_T {c : Operand} {x y : Code} {t : Bool} (hc : ev σ c = .bool t) (hT : t = true) (ht : wpS P w0 D n r x Q ds σ L) : wpS P w0 D n r (.cond c x y) Q ds σ L :=
  wpS_cond hc (fun _ => ht) (fun h => by rw [hT] at h; cases h)
theorem wpS_cond_F {c : Operand} {x y : Code} {t : Bool} (hc : ev σ c = .bool t) (hF : t = false) (hf : wpS P w0 D n r y Q ds σ L) : wpS P w0 D n r (.cond c x y) Q ds σ L :=
  wpS_cond hc (fun h => by rw [hF] at h; cases h) (fun _ => hf)
def blockS (id : Nat) (Q : Post) : Post
  | .exit id', ds, σ, L => bif Nat.beq id' id then Q .normal ds σ L else Q (.exit id') ds σ L
  | e, ds, σ, L => Q e ds σ L
theorem wpS_block {id : Nat} {c : Code} (h : wpS P w0 D n r c (blockS id Q) ds σ L) : wpS P w0 D n r (.block id c) Q ds σ L :=
  fun a w hf hs => wpIn_block (wpIn_mono (h a w hf hs) fun e a w hq => by
    obtain ⟨ds', σ', L', h1, h2, h3⟩ := hq
    cases e with
    | exit id' =>
      by_cases hid : id' = id
      · subst hid
        simp only [blockS, Nat.beq_refl, cond_true] at h3
        simp only [Exit.inBlock, if_true]
        exact ⟨ds', σ', L', h1, h2, h3⟩
      · have hb : Nat.beq id' id = false := by cases hb : Nat.beq id' id with | false => rfl | true => exact absurd (Nat.eq_of_beq_eq_true hb) hid
        simp only [blockS, hb, cond_false] at h3
        simp only [Exit.inBlock, hid, if_false]
        exact ⟨ds', σ', L', h1, h2, h3⟩
    | _ => exact ⟨ds', σ', L', h1, h2, h3⟩)
theorem wpS_loop {c : Code} (I : Nat → List Nat → Fr → List Res → Prop) {m0 : Nat} (h0 : I m0 ds σ L)
    (step : ∀ m ds σ L, I m ds σ L → wpS P w0 D n r c (thenS (fun ds σ L => ∃ m', m' < m ∧ I m' ds σ L) Q) ds σ L) : wpS P w0 D n r (.loop c) Q ds σ L := by
  intro a w hf hs
  intro b k cs hro hb hr
  have key : ∀ m ds σ L a w, I m ds σ L → FrOK n ds σ a → SH w0 D L w →
      ∃ e a' w', toQ w0 D n Q e a' w' ∧ ArrivesIn (Machine.fenced P (FW r)) P (lone (b.atR a (.code c :: .inLoop c :: k)) cs w) b k cs e a' w' := by
    intro m
    induction m using Nat.strongRecOn with
    | _ m ih =>
      intro ds σ L a w hI hf hs
      obtain ⟨e, a₁, w₁, ⟨ds₁, σ₁, L₁, hf₁, hs₁, hq⟩, harr⟩ := step m ds σ L hI a w hf hs b (.inLoop c :: k) cs hro hb hr
      cases e with
      | normal =>
        obtain ⟨m', hlt, hI'⟩ := hq
        obtain ⟨e₂, a₂, w₂, hq₂, harr₂⟩ := ih m' hlt ds₁ σ₁ L₁ a₁ w₁ hI' hf₁ hs₁
        exact ⟨e₂, a₂, w₂, hq₂, .of_steps (StepsIn.trans harr (.one (fenced_calm hb hr rfl) stepR_inLoop)) harr₂⟩
      | exit id => exact ⟨_, a₁, w₁, ⟨_, _, _, hf₁, hs₁, hq⟩, .pass (x := .inLoop c) rfl (fun _ _ => .inl (by simp)) harr⟩
      | goto l => exact ⟨_, a₁, w₁, ⟨_, _, _, hf₁, hs₁, hq⟩, .pass (x := .inLoop c) rfl (fun _ _ => .inl (by simp)) harr⟩
      | ret => exact ⟨_, a₁, w₁, ⟨_, _, _, hf₁, hs₁, hq⟩, .pass (x := .inLoop c) rfl (fun _ _ => .inl (by simp)) harr⟩
      | panic ch => exact ⟨_, a₁, w₁, ⟨_, _, _, hf₁, hs₁, hq⟩, .pass (x := .inLoop c) rfl (fun _ _ => .inl (by simp)) harr⟩
      | outgrown => exact ⟨_, a₁, w₁, ⟨_, _, _, hf₁, hs₁, hq⟩, .pass (x := .inLoop c) rfl (fun _ _ => .inl (by simp)) harr⟩
  obtain ⟨e, a', w', hq, harr⟩ := key _ _ _ _ a w h0 hf hs
  exact ⟨e, a', w', hq, .of_steps (.one (fenced_calm hb hr rfl) stepR_loop) harr⟩
theorem stepR_scope' {b : Frame} {a : Act} {k : List Item} {cs : List Frame} {w : World} {c : Code} : step P (lone (b.atR a (.code (.scope c) :: k)) cs w) = .next (lone (b.atR a (.code c :: .inScope c :: k)) cs w) :=
  step_lone_go (by simp [stepG, stepG.exec, Frame.atR])
theorem stepR_inScope' {b : Frame} {a : Act} {k : List Item} {cs : List Frame} {w : World} {c : Code} : step P (lone (b.atR a (.inScope c :: k)) cs w) = .next (lone (b.atR a k) cs w) :=
  step_lone_go (by simp [stepG, stepG.exec, Frame.atR])
def scopeS (Q : Post) : Post
  | .goto _, _, _, _ => False
  | e, ds, σ, L => Q e ds σ L
theorem wpS_scope {c : Code} (h : wpS P w0 D n r c (scopeS Q) ds σ L) : wpS P w0 D n r (.scope c) Q ds σ L := by
  intro a w hf hs b k cs hro hb hr
  have h0 : (lone (b.atR a (.code (.scope c) :: k)) cs w).fenced P (FW r) := fenced_calm hb hr rfl
  obtain ⟨e, a₁, w₁, ⟨ds₁, σ₁, L₁, hf₁, hs₁, hq⟩, harr⟩ := h a w hf hs b (.inScope c :: k) cs hro hb hr
  cases e with
  | normal => exact ⟨.normal, a₁, w₁, ⟨_, _, _, hf₁, hs₁, hq⟩, .head h0 stepR_scope' (StepsIn.trans harr (.one (fenced_calm hb hr rfl) stepR_inScope'))⟩
  | exit id =>
    have hx : exitTo id (.inScope c :: k) = exitTo id k := by simp [exitTo]
    exact ⟨.exit id, a₁, w₁, ⟨_, _, _, hf₁, hs₁, hq⟩, fun k' hk => .head h0 stepR_scope' (harr.1 k' (by rw [hx]; exact hk)),
      fun hr' hk => let ⟨k₁, h1, h2⟩ := harr.2 hr' (by rw [hx]; exact hk); ⟨k₁, h1, .head h0 stepR_scope' h2⟩⟩
  | goto l => exact hq.elim
  | ret => exact ⟨_, a₁, w₁, ⟨_, _, _, hf₁, hs₁, hq⟩, .of_steps (.one h0 stepR_scope') harr⟩
  | panic ch => exact ⟨_, a₁, w₁, ⟨_, _, _, hf₁, hs₁, hq⟩, .of_steps (.one h0 stepR_scope') harr⟩
  | outgrown => exact ⟨_, a₁, w₁, ⟨_, _, _, hf₁, hs₁, hq⟩, .of_steps (.one h0 stepR_scope') harr⟩
theorem thenS_n {K : List Nat → Fr → List Res → Prop} (h : K ds σ L) : thenS K Q .normal ds σ L := h
theorem thenS_x {K : List Nat → Fr → List Res → Prop} {id : Nat} (h : Q (.exit id) ds σ L) : thenS K Q (.exit id) ds σ L := h
theorem thenS_r {K : List Nat → Fr → List Res → Prop} (h : Q .ret ds σ L) : thenS K Q .ret ds σ L := h
theorem blockS_n {id : Nat} (h : Q .normal ds σ L) : blockS id Q .normal ds σ L := h
theorem blockS_r {id : Nat} (h : Q .ret ds σ L) : blockS id Q .ret ds σ L := h
theorem blockS_h {id : Nat} (h : Q .normal ds σ L) : blockS id Q (.exit id) ds σ L := by simp only [blockS, Nat.beq_refl, cond_true]; exact h
theorem blockS_m {id id' : Nat} (hb : Nat.beq id' id = false) (h : Q (.exit id') ds σ L) : blockS id Q (.exit id') ds σ L := by simp only [blockS, hb, cond_false]; exact h
theorem scopeS_n (h : Q .normal ds σ L) : scopeS Q .normal ds σ L := h
theorem scopeS_r (h : Q .ret ds σ L) : scopeS Q .ret ds σ L := h
theorem scopeS_x {id : Nat} (h : Q (.exit id) ds σ L) : scopeS Q (.exit id) ds σ L := h
end rules
def evRV (σ : Fr) : ResultVar → Sem Value
  | .tmp t => pure (σ t)
  | .cell a t => do loadVar t (← asAddr (σ a))
def resS (fn : Func) (σ : Fr) : Sem Value := do
  let vs ← fn.results.mapM (evRV σ)
  pure (if h : vs.size = 1 then vs[0] else .tuple vs)
theorem results_eq {fn : Func} {n : Nat} {ds : List Nat} {σ : Fr} {a : Act} (h : FrOK n ds σ a) : results fn a.tmps = resS fn σ := by
  unfold results resS
  congr 1
  congr 1
  funext x
  cases x with
  | tmp t => simp only [evRV, h.get]
  | cell b t => simp only [evRV, h.get]
theorem SH.closeDfr {w0 w : World} {D : List Nat} {L : List Res} {r : Nat} (h : SH w0 D (dfr r :: L) w) : SH w0 D L (w.putObj r (.deferred none)) := by
  have hr := h.own (dfr r) (by simp) r (by simp [dfr, blk])
  have hd := List.pairwise_cons.1 h.disj
  have hne : ∀ k, k ≠ r → (w.putObj r (.deferred none)).heap[k]? = w.heap[k]? := fun k hk => by
    simp only [World.putObj]
    rw [Array.getElem?_setIfInBounds_ne (fun e => hk e.symm)]
  have hsz : (w.putObj r (.deferred none)).heap.size = w.heap.size := by simp [World.putObj]
  refine ⟨h.os, h.tape, h.output, by rw [hsz]; exact h.size, ?_, ?_, ?_, hd.2⟩
  · intro k hk hkD
    rw [hne k (fun e => ?_), h.old k hk hkD]
    subst e
    rcases hr.1 with h1 | h1
    · omega
    · exact hkD h1
  · intro p hp
    refine p.loc w _ (fun b hb => hne b (fun e => ?_)) (h.ok p (List.mem_cons_of_mem _ hp))
    subst e
    exact hd.1 p hp b (by simp [dfr, blk]) hb
  · intro p hp b hb
    rw [hsz]
    exact h.own p (List.mem_cons_of_mem _ hp) b hb
theorem leaves_ds {P : Program} {fn : Func} {tmps : Array Value} {R : Ending → World → Prop} {w0 : World} {D : List Nat} {M : List Res} (ds : List Nat) : ∀ (w : World), SH w0 D (ds.map dfr ++ M) w →
    (∀ w', SH w0 D M w' → ∃ v, (results fn tmps).run P w' = .ok v w' ∧ R (.returned v) w') → LeavesInM Fence.wide 0 P fn tmps R (ds.map mkD) .returning w := by
  induction ds with
  | nil =>
    intro w hs h
    exact h w hs
  | cons r ds ih =>
    intro w hs h
    have hs' : SH w0 D (dfr r :: (ds.map dfr ++ M)) w := hs
    exact ⟨by simp, .inl ⟨r, _, rfl, run_takeDeferred (hs'.ok (dfr r) (by simp)), ih _ hs'.closeDfr h⟩⟩
theorem calls_of_wpS {P : Program} {f : FuncId} {fn : Func} {c : Code} {args : Array Value} {w : World} {R : Ending → World → Prop} {n : Nat} {σ0 : Fr} {D : List Nat} {A : List Res}
    (hf : P.funcs[f]? = some fn) (hb : fn.body = some c) (hn : fn.ntmps = n) (hsz : args.size ≤ n)
    (hσ : ∀ i, args.getD i undef = σ0 i) (hA : SH w D A w)
    (h : wpS P w D n none c (fun e ds σ L => (e = .normal ∨ e = .ret) ∧ ∃ M, Ent L (ds.map dfr ++ M) ∧ ∀ w', SH w D M w' → ∃ v, (resS fn σ).run P w' = .ok v w' ∧ R (.returned v) w') [] σ0 A) :
    Calls P f args w R := by
  refine (callsIn_wide (n := 0)).1 ?_
  refine callsIn_of_wp_marks hf hb trivial ?_ rfl
  refine wpIn_mono (h _ w ⟨rfl, ?_, fun i => ?_⟩ hA) ?_
  · simp [hn]; omega
  · rw [← hσ i]
    simp only [Array.getD_eq_getD_getElem?, hn]
    by_cases hi : i < args.size
    · rw [Array.getElem?_append_left hi]
    · rw [Array.getElem?_append_right (by omega), Array.getElem?_eq_none (by omega : args.size ≤ i)]
      by_cases hi' : i - args.size < n - args.size
      · simp [Array.getElem?_replicate, hi']
      · simp [Array.getElem?_replicate, hi']
  · rintro e a w' ⟨ds, σ, L, hfr, hs, he, M, hent, hR⟩
    have hleave : LeavesInM Fence.wide 0 P fn a.tmps R a.defers .returning w' := by
      rw [hfr.defers]
      exact leaves_ds ds w' (hs.ent hent) (fun w'' hw => by rw [results_eq hfr]; exact hR w'' hw)
    rcases he with rfl | rfl <;> exact hleave
theorem a0_fr : ∀ i, (#[] : Array Value).getD i undef = fr0 i := fun i => by simp [Array.getD, fr0]
theorem a1_fr (v0 : Value) : ∀ i, #[v0].getD i undef = upd fr0 0 v0 i
  | 0 => rfl
  | i + 1 => by rw [Array.getD_eq_getD_getElem?, Array.getElem?_eq_none (by simp)]; simp [upd, fr0, Nat.beq]
theorem a2_fr (v0 v1 : Value) : ∀ i, #[v0, v1].getD i undef = upd (upd fr0 0 v0) 1 v1 i
  | 0 => rfl
  | 1 => rfl
  | i + 2 => by rw [Array.getD_eq_getD_getElem?, Array.getElem?_eq_none (by simp)]; simp [upd, fr0, Nat.beq]
theorem a3_fr (v0 v1 v2 : Value) : ∀ i, #[v0, v1, v2].getD i undef = upd (upd (upd fr0 0 v0) 1 v1) 2 v2 i
  | 0 => rfl
  | 1 => rfl
  | 2 => rfl
  | i + 3 => by rw [Array.getD_eq_getD_getElem?, Array.getElem?_eq_none (by simp)]; simp [upd, fr0, Nat.beq]
theorem a4_fr (v0 v1 v2 v3 : Value) : ∀ i, #[v0, v1, v2, v3].getD i undef = upd (upd (upd (upd fr0 0 v0) 1 v1) 2 v2) 3 v3 i
  | 0 => rfl
  | 1 => rfl
  | 2 => rfl
  | 3 => rfl
  | i + 4 => by rw [Array.getD_eq_getD_getElem?, Array.getElem?_eq_none (by simp)]; simp [upd, fr0, Nat.beq]
theorem a5_fr (v0 v1 v2 v3 v4 : Value) : ∀ i, #[v0, v1, v2, v3, v4].getD i undef = upd (upd (upd (upd (upd fr0 0 v0) 1 v1) 2 v2) 3 v3) 4 v4 i
  | 0 => rfl
  | 1 => rfl
  | 2 => rfl
  | 3 => rfl
  | 4 => rfl
  | i + 5 => by rw [Array.getD_eq_getD_getElem?, Array.getElem?_eq_none (by simp)]; simp [upd, fr0, Nat.beq]
section
variable {P : Program} {w : World} {D ds : List Nat} {σ : Fr} {L M : List Res} {fn : Func} {R : Ending → World → Prop} {e : Exit}
def finS (P : Program) (w : World) (D : List Nat) (fn : Func) (R : Ending → World → Prop) : Post :=
  fun e ds σ L => (e = .normal ∨ e = .ret) ∧ ∃ M, Ent L (ds.map dfr ++ M) ∧ ∀ w', SH w D M w' → ∃ v, (resS fn σ).run P w' = .ok v w' ∧ R (.returned v) w'
theorem calls_S {f : FuncId} {c : Code} {args : Array Value} {n : Nat} {σ0 : Fr} {A : List Res} (hf : P.funcs[f]? = some fn) (hb : fn.body = some c) (hn : fn.ntmps = n) (hsz : Nat.ble args.size n = true)
    (hσ : ∀ i, args.getD i undef = σ0 i) (hA : SH w D A w) (h : wpS P w D n none c (finS P w D fn R) [] σ0 A) : Calls P f args w R := calls_of_wpS hf hb hn (Nat.le_of_ble_eq_true hsz) hσ hA h
theorem fin0 (he : e = .normal ∨ e = .ret) (hE : Ent L (ds.map dfr ++ M)) (hr : fn.results = #[]) (hR : ∀ w', SH w D M w' → R (.returned (.tuple #[])) w') : finS P w D fn R e ds σ L :=
  ⟨he, M, hE, fun w' hs => ⟨_, by simp [resS, hr], hR w' hs⟩⟩
theorem fin1 {t : Tmp} {v : Value} (he : e = .normal ∨ e = .ret) (hE : Ent L (ds.map dfr ++ M)) (hr : fn.results = #[.tmp t]) (hv : σ t = v) (hR : ∀ w', SH w D M w' → R (.returned v) w') : finS P w D fn R e ds σ L :=
  ⟨he, M, hE, fun w' hs => ⟨v, by simp [resS, hr, evRV, hv], hR w' hs⟩⟩
theorem fin1' {x : ResultVar} {v : Value} (he : e = .normal ∨ e = .ret) (hE : Ent L (ds.map dfr ++ M)) (hr : fn.results = #[x]) (hv : ∀ w', SH w D M w' → (evRV σ x).run P w' = .ok v w') (hR : ∀ w', SH w D M w' → R (.returned v) w') : finS P w D fn R e ds σ L :=
  ⟨he, M, hE, fun w' hs => ⟨v, by simp [resS, hr, hv w' hs], hR w' hs⟩⟩
theorem fin2 {x y : ResultVar} {u v : Value} (he : e = .normal ∨ e = .ret) (hE : Ent L (ds.map dfr ++ M)) (hr : fn.results = #[x, y]) (hu : ∀ w', SH w D M w' → (evRV σ x).run P w' = .ok u w') (hv : ∀ w', SH w D M w' → (evRV σ y).run P w' = .ok v w')
    (hR : ∀ w', SH w D M w' → R (.returned (.tuple #[u, v])) w') : finS P w D fn R e ds σ L :=
  ⟨he, M, hE, fun w' hs => ⟨_, by simp [resS, hr, hu w' hs, hv w' hs], hR w' hs⟩⟩
theorem fin3 {x y z : ResultVar} {u v t : Value} (he : e = .normal ∨ e = .ret) (hE : Ent L (ds.map dfr ++ M)) (hr : fn.results = #[x, y, z]) (hu : ∀ w', SH w D M w' → (evRV σ x).run P w' = .ok u w') (hv : ∀ w', SH w D M w' → (evRV σ y).run P w' = .ok v w')
    (ht : ∀ w', SH w D M w' → (evRV σ z).run P w' = .ok t w') (hR : ∀ w', SH w D M w' → R (.returned (.tuple #[u, v, t])) w') : finS P w D fn R e ds σ L :=
  ⟨he, M, hE, fun w' hs => ⟨_, by simp [resS, hr, hu w' hs, hv w' hs, ht w' hs], hR w' hs⟩⟩
theorem rvT {t : Tmp} {v : Value} (h : σ t = v) : ∀ w', SH w D M w' → (evRV σ (.tmp t)).run P w' = .ok v w' := fun w' _ => by simp [evRV, h]
end
end Go.Proofs.Ytldkjjnjdjfipaa
namespace Go.Proofs.Ytldkjjnjdjfipaa
open Go Go.RowKit
set_option linter.unusedVariables false
set_option linter.unusedSimpArgs false
section
variable (P : Program) (w0 : World) (D : List Nat) (n : Nat)
def qUpon (w0 : World) (D : List Nat) (L : List Res) (w : World) (v : Value) : Result Next → Prop
  | .ok (.value u) w' => w' = w ∧ u = v
  | .ok .skip w' => w' = w ∧ v = undef
  | .ok (.enter f args) w' => w' = w ∧ Calls P f args w (fun e w'' => e = .returned v ∧ SH w0 D L w'')
  | _ => False
def OpY (σ : Fr) (L : List Res) (o : Oper) (v : Value) : Prop :=
  (∀ c, o.op ≠ .defer c) ∧ ∀ w, SH w0 D L w → qUpon P w0 D L w v ((execOp (ev σ) o).run P w)
def OpE (σ : Fr) (L : List Res) (o : Oper) (K : Value → List Res → Prop) : Prop :=
  (∀ c, o.op ≠ .defer c) ∧ ∀ w, SH w0 D L w →
    (∃ v w' L', (execOp (ev σ) o).run P w = .ok (.value v) w' ∧ SH w0 D L' w' ∧ K v L') ∨
    (∃ w' L', (execOp (ev σ) o).run P w = .ok .skip w' ∧ SH w0 D L' w' ∧ K undef L') ∨
    (∃ f args, (execOp (ev σ) o).run P w = .ok (.enter f args) w ∧ Calls P f args w (fun e w' => ∃ v L', e = .returned v ∧ SH w0 D L' w' ∧ K v L')) ∨
    (∃ l f tmps assign body, (execOp (ev σ) o).run P w = .ok (.round l f tmps assign body) w ∧ RoundIn (FW none) 0 P l f tmps assign body w (fun e w' => ∃ v L', e = .returned v ∧ SH w0 D L' w' ∧ K v L'))
end
section
variable {P : Program} {w0 : World} {D : List Nat} {n : Nat} {r : Option Nat} {ds : List Nat} {σ : Fr} {L : List Res}
theorem OpY.E {o : Oper} {v : Value} (h : OpY P w0 D σ L o v) {K : Value → List Res → Prop} (hK : K v L) : OpE P w0 D σ L o K := by
  refine ⟨h.1, fun w hs => ?_⟩
  have h2 := h.2 w hs
  generalize (execOp (ev σ) o).run P w = x at *
  cases x with
  | ok y w' =>
    cases y <;> simp only [qUpon] at h2
    case value u => obtain ⟨rfl, rfl⟩ := h2; exact .inl ⟨_, _, L, rfl, hs, hK⟩
    case skip => obtain ⟨rfl, rfl⟩ := h2; exact .inr (.inl ⟨_, L, rfl, hs, hK⟩)
    case enter f args => obtain ⟨rfl, hc⟩ := h2; exact .inr (.inr (.inl ⟨f, args, rfl, hc.mono fun e w' ⟨he, hs'⟩ => ⟨v, L, he, hs', hK⟩⟩))
  | halt x w' => simp only [qUpon] at h2
theorem OpE.mono {o : Oper} {K K' : Value → List Res → Prop} (hk : ∀ v L, K v L → K' v L) (h : OpE P w0 D σ L o K) : OpE P w0 D σ L o K' := by
  refine ⟨h.1, fun w hs => ?_⟩
  rcases h.2 w hs with ⟨v, w', L', a, b, c⟩ | ⟨w', L', a, b, c⟩ | ⟨f, args, a, b⟩ | ⟨l, f, ts, as, bo, a, b⟩
  · exact .inl ⟨v, w', L', a, b, hk _ _ c⟩
  · exact .inr (.inl ⟨w', L', a, b, hk _ _ c⟩)
  · exact .inr (.inr (.inl ⟨f, args, a, b.mono fun e w' ⟨v, L', x, y, z⟩ => ⟨v, L', x, y, hk _ _ z⟩⟩))
  · exact .inr (.inr (.inr ⟨l, f, ts, as, bo, a, b.mono fun e w' ⟨v, L', x, y, z⟩ => ⟨v, L', x, y, hk _ _ z⟩⟩))
def toN (w0 : World) (D : List Nat) (n : Nat) (ds : List Nat) (K : Fr → List Res → Prop) : Exit → Act → World → Prop
  | .normal, a, w => ∃ σ L, FrOK n ds σ a ∧ SH w0 D L w ∧ K σ L
  | _, _, _ => False
def wpL (P : Program) (w0 : World) (D : List Nat) (n : Nat) (r : Option Nat) (ds : List Nat) (ops : Array Oper) (K : Fr → List Res → Prop) (l : List Oper) (σ : Fr) (L : List Res) : Prop :=
  ∀ a w, FrOK n ds σ a → SH w0 D L w → wpListIn (FW r) 0 P ops (toN w0 D n ds K) l a w
def updO (σ : Fr) : Option Nat → Value → Fr
  | some d, v => upd σ d v
  | none, _ => σ
def okO (n : Nat) : Option Nat → Bool
  | some d => Nat.blt d n
  | none => true
theorem FrOK.putO {a : Act} (h : FrOK n ds σ a) {d : Option Nat} (hd : okO n d = true) (v : Value) : FrOK n ds (updO σ d v) (a.put d v) := by
  cases d with
  | none => exact h
  | some d => exact h.put hd v
theorem aboutW (o : Oper) (a : Act) (w : World) : ∀ f, o.about P w a.eval = some f → (FW r).fn f := fun _ _ => trivial
theorem wpIn_of_E {o : Oper} {a : Act} {w : World} {K : Fr → List Res → Prop} {Q : Exit → Act → World → Prop} {N : Act → World → Prop} (hf : FrOK n ds σ a) (hs : SH w0 D L w) (hd : okO n o.dst = true)
    (h : OpE P w0 D σ L o (fun v L' => K (updO σ o.dst v) L')) (hN : ∀ a w σ L, FrOK n ds σ a → SH w0 D L w → K σ L → N a w) : o.wpIn (FW r) 0 P a w N Q := by
  refine ⟨aboutW o a w, ?_⟩
  rw [Oper.semAt_eq _ _ _ h.1, hf.ev']
  rcases h.2 w hs with ⟨v, w', L', e, hs', hk⟩ | ⟨w', L', e, hs', hk⟩ | ⟨f, args, e, hc⟩ | ⟨l, f, ts, as, bo, e, hc⟩
  · rw [e]
    exact hN _ _ _ _ (hf.putO hd v) hs' hk
  · rw [e]
    exact hN _ _ _ _ (hf.putO hd undef) hs' hk
  · rw [e]
    refine ⟨fun hx => by simp [FW] at hx, ?_⟩
    have hc' : CallsIn (FW r) (0 - 1) P f args w (fun e w' => ∃ v L', e = .returned v ∧ SH w0 D L' w' ∧ K (updO σ o.dst v) L') := (callsIn_wide (n := 0)).2 hc
    refine hc'.mono fun e w' ⟨v, L', he, hs', hk⟩ => ?_
    subst he
    exact hN _ _ _ _ (hf.putO hd v) hs' hk
  · rw [e]
    refine ⟨fun hx => by simp [FW] at hx, ?_⟩
    have hc' : RoundIn (FW r) (0 - 1) P l f ts as bo w (fun e w' => ∃ v L', e = .returned v ∧ SH w0 D L' w' ∧ K (updO σ o.dst v) L') := hc
    refine hc'.mono fun e w' ⟨v, L', he, hs', hk⟩ => ?_
    subst he
    exact hN _ _ _ _ (hf.putO hd v) hs' hk
theorem wanted_none {d : Option Tmp} {op : Op} {ty : TypeId} {pos : String} {af : Array Edge} {y : Nat → Option Bool} : Region.wanted ⟨d, op, ty, pos, af, none⟩ y = true := rfl
theorem wpL_nil {ops : Array Oper} {K : Fr → List Res → Prop} (h : K σ L) : wpL P w0 D n r ds ops K [] σ L := fun _ _ hf hs => ⟨_, _, hf, hs, h⟩
theorem wpL_e {ops : Array Oper} {K : Fr → List Res → Prop} {d : Option Tmp} {op : Op} {ty : TypeId} {pos : String} {af : Array Edge} {l : List Oper} (hd : okO n d = true)
    (h : OpE P w0 D σ L ⟨d, op, ty, pos, af, none⟩ (fun v L' => wpL P w0 D n r ds ops K l (updO σ d v) L')) : wpL P w0 D n r ds ops K (⟨d, op, ty, pos, af, none⟩ :: l) σ L := fun a w hf hs => by
  unfold wpListIn
  rw [if_pos wanted_none]
  exact wpIn_of_E hf hs hd h (fun a w σ L h1 h2 h3 => h3 a w h1 h2)
theorem wpL_y {ops : Array Oper} {K : Fr → List Res → Prop} {d : Option Tmp} {op : Op} {ty : TypeId} {pos : String} {af : Array Edge} {l : List Oper} {v : Value} (hd : okO n d = true)
    (hy : OpY P w0 D σ L ⟨d, op, ty, pos, af, none⟩ v) (h : wpL P w0 D n r ds ops K l (updO σ d v) L) : wpL P w0 D n r ds ops K (⟨d, op, ty, pos, af, none⟩ :: l) σ L :=
  wpL_e hd (hy.E h)
theorem yielded_eq {ops : Array Oper} {a : Act} {j d : Nat} {o : Oper} {b : Bool} (hf : FrOK n ds σ a) (hj : ops[j]? = some o) (hd : o.dst = some d) (hlt : Nat.blt d n = true) (hb : σ d = .bool b) : yielded ops a.tmps j = some b := by
  have hlt' : d < a.tmps.size := by rw [hf.size]; simpa using hlt
  have hg := hf.get d
  rw [Array.getD_eq_getD_getElem?, Array.getElem?_eq_getElem hlt'] at hg
  simp only [Option.getD_some] at hg
  simp only [yielded, hj, Option.bind_some, hd, Array.getElem?_eq_getElem hlt', hg, hb]
theorem yielded_undef {ops : Array Oper} {a : Act} {j d : Nat} {o : Oper} (hf : FrOK n ds σ a) (hj : ops[j]? = some o) (hd : o.dst = some d) (hlt : Nat.blt d n = true) (hb : σ d = undef) : yielded ops a.tmps j = none := by
  have hlt' : d < a.tmps.size := by rw [hf.size]; simpa using hlt
  have hg := hf.get d
  rw [Array.getD_eq_getD_getElem?, Array.getElem?_eq_getElem hlt'] at hg
  simp only [Option.getD_some] at hg
  simp only [yielded, hj, Option.bind_some, hd, Array.getElem?_eq_getElem hlt', hg, hb, undef]
theorem wpL_ge {ops : Array Oper} {K : Fr → List Res → Prop} {d : Option Tmp} {op : Op} {ty : TypeId} {pos : String} {af : Array Edge} {l : List Oper} {j dj : Nat} {o : Oper} {b : Bool} (hd : okO n d = true)
    (hj : ops[j]? = some o) (hdj : o.dst = some dj) (hlt : Nat.blt dj n = true) (hb : σ dj = .bool b)
    (h : OpE P w0 D σ L ⟨d, op, ty, pos, af, some (j, b)⟩ (fun v L' => wpL P w0 D n r ds ops K l (updO σ d v) L')) : wpL P w0 D n r ds ops K (⟨d, op, ty, pos, af, some (j, b)⟩ :: l) σ L := fun a w hf hs => by
  unfold wpListIn
  rw [if_pos (by simp [Region.wanted, yielded_eq hf hj hdj hlt hb])]
  exact wpIn_of_E hf hs hd h (fun a w σ L h1 h2 h3 => h3 a w h1 h2)
theorem wpL_gy {ops : Array Oper} {K : Fr → List Res → Prop} {d : Option Tmp} {op : Op} {ty : TypeId} {pos : String} {af : Array Edge} {l : List Oper} {j dj : Nat} {o : Oper} {b : Bool} {v : Value} (hd : okO n d = true)
    (hj : ops[j]? = some o) (hdj : o.dst = some dj) (hlt : Nat.blt dj n = true) (hb : σ dj = .bool b)
    (hy : OpY P w0 D σ L ⟨d, op, ty, pos, af, some (j, b)⟩ v) (h : wpL P w0 D n r ds ops K l (updO σ d v) L) : wpL P w0 D n r ds ops K (⟨d, op, ty, pos, af, some (j, b)⟩ :: l) σ L :=
  wpL_ge hd hj hdj hlt hb (hy.E h)
theorem wpL_no {ops : Array Oper} {K : Fr → List Res → Prop} {d : Option Tmp} {op : Op} {ty : TypeId} {pos : String} {af : Array Edge} {l : List Oper} {j dj : Nat} {o : Oper} {b b' : Bool} (hd : okO n d = true)
    (hj : ops[j]? = some o) (hdj : o.dst = some dj) (hlt : Nat.blt dj n = true) (hb : σ dj = .bool b') (hne : b' = !b)
    (h : wpL P w0 D n r ds ops K l (updO σ d undef) L) : wpL P w0 D n r ds ops K (⟨d, op, ty, pos, af, some (j, b)⟩ :: l) σ L := fun a w hf hs => by
  unfold wpListIn
  rw [if_neg (by subst hne; simp [Region.wanted, yielded_eq hf hj hdj hlt hb])]
  exact ⟨aboutW _ a w, h _ _ (hf.putO hd undef) hs⟩
theorem wpL_nu {ops : Array Oper} {K : Fr → List Res → Prop} {d : Option Tmp} {op : Op} {ty : TypeId} {pos : String} {af : Array Edge} {l : List Oper} {j dj : Nat} {o : Oper} {b : Bool} (hd : okO n d = true)
    (hj : ops[j]? = some o) (hdj : o.dst = some dj) (hlt : Nat.blt dj n = true) (hb : σ dj = undef)
    (h : wpL P w0 D n r ds ops K l (updO σ d undef) L) : wpL P w0 D n r ds ops K (⟨d, op, ty, pos, af, some (j, b)⟩ :: l) σ L := fun a w hf hs => by
  unfold wpListIn
  rw [if_neg (by simp [Region.wanted, yielded_undef hf hj hdj hlt hb])]
  exact ⟨aboutW _ a w, h _ _ (hf.putO hd undef) hs⟩
theorem wpIn_monoQ {F : Fence} {m : Nat} {o : Oper} {a : Act} {w : World} {K K' : Act → World → Prop} {Q Q' : Exit → Act → World → Prop} (h : ∀ a w, K a w → K' a w) (hq : ∀ e a w, Q e a w → Q' e a w)
    (hh : o.wpIn F m P a w K Q) : o.wpIn F m P a w K' Q' := by
  have hl : LetsOut Q → LetsOut Q' := fun ⟨a, w, hx⟩ => ⟨a, w, hq _ _ _ hx⟩
  unfold Oper.wpIn at *
  refine ⟨hh.1, ?_⟩
  have hh := hh.2
  generalize (o.semAt F.round a.eval).run P w = r at *
  cases r with
  | ok x w' =>
    cases x <;> simp only [Oper.uponIn] at hh ⊢ <;>
      first
        | exact h _ _ hh
        | exact ⟨hh.1, CallsIn.mono hh.2 (fun e w'' he => by cases e <;> first | exact h _ _ he | exact hq _ _ _ he | exact hl he)⟩
        | exact ⟨hh.1, RowsIn.mono hh.2 (fun _ _ he => h _ _ he)⟩
        | exact ⟨hh.1, RoundIn.mono hh.2 (fun e w'' he => by cases e <;> first | exact h _ _ he | exact hq _ _ _ he | exact hl he)⟩
  | halt x w' => cases x <;> simp only [Oper.uponIn] at hh ⊢ <;> exact hq _ _ _ hh
theorem toN_Q {Q : Post} : ∀ e a w, toN w0 D n ds (fun σ' L' => Q .normal ds σ' L') e a w → toQ w0 D n Q e a w
  | .normal, _, _, ⟨σ, L, h1, h2, h3⟩ => ⟨ds, σ, L, h1, h2, h3⟩
  | .exit _, _, _, h => h.elim
  | .goto _, _, _, h => h.elim
  | .ret, _, _, h => h.elim
  | .panic _, _, _, h => h.elim
  | .outgrown, _, _, h => h.elim
theorem wpS_region {Q : Post} {id : Nat} {l : List Oper} (h : wpL P w0 D n r ds l.toArray (fun σ' L' => Q .normal ds σ' L') l σ L) : wpS P w0 D n r (.region id l.toArray false) Q ds σ L :=
  fun a w hf hs => wpIn_region_lit (by
    have mono : ∀ (l' : List Oper) (a : Act) (w : World), wpListIn (FW r) 0 P l.toArray (toN w0 D n ds (fun σ' L' => Q .normal ds σ' L')) l' a w → wpListIn (FW r) 0 P l.toArray (toQ w0 D n Q) l' a w := by
      intro l'
      induction l' with
      | nil => exact fun a w hh => toN_Q _ _ _ hh
      | cons o l' ih =>
        intro a w hh
        unfold wpListIn at hh ⊢
        split
        · rename_i hw; rw [if_pos hw] at hh
          exact wpIn_monoQ (fun a w => ih a w) toN_Q hh
        · rename_i hw; rw [if_neg hw] at hh
          exact ⟨hh.1, ih _ _ hh.2⟩
    exact mono l a w (h a w hf hs))
def OpQ (P : Program) (w0 : World) (D : List Nat) (σ : Fr) (L : List Res) (o : Oper) (v : Value) : Prop :=
  ∀ L', Ent L' L → OpY P w0 D σ L' o v
def opS (P : Program) (w0 : World) (D : List Nat) (n : Nat) (ops : Array Oper) (i : Nat) (K : Fr → List Res → Prop) (σ : Fr) (L : List Res) : Prop :=
  match ops[i]? with
  | none => K σ L
  | some o => okO n o.dst = true ∧
    match o.guard with
    | none => OpE P w0 D σ L o (fun v L' => K (updO σ o.dst v) L')
    | some (j, b) => ∃ oj dj, ops[j]? = some oj ∧ oj.dst = some dj ∧ Nat.blt dj n = true ∧
        ((σ dj = .bool b ∧ OpE P w0 D σ L o (fun v L' => K (updO σ o.dst v) L')) ∨ ((σ dj = .bool (!b) ∨ σ dj = undef) ∧ K (updO σ o.dst undef) L))
theorem opS_sound {ops : Array Oper} {i : Nat} {K : Fr → List Res → Prop} {Q : Exit → Act → World → Prop} {N : Act → World → Prop} {a : Act} {w : World} (hf : FrOK n ds σ a) (hs : SH w0 D L w)
    (h : opS P w0 D n ops i K σ L) (hN : ∀ a w σ L, FrOK n ds σ a → SH w0 D L w → K σ L → N a w) : wpOpIn (FW r) 0 P ops Q i N a w := by
  unfold opS at h
  unfold wpOpIn
  split
  · rename_i ho; simp only [ho] at h; exact hN _ _ _ _ hf hs h
  · rename_i o ho
    simp only [ho] at h
    obtain ⟨hd, h⟩ := h
    cases hg : o.guard with
    | none =>
      simp only [hg] at h
      rw [if_pos (by simp [Region.wanted, hg])]
      exact wpIn_of_E hf hs hd h hN
    | some g =>
      obtain ⟨j, b⟩ := g
      simp only [hg] at h
      obtain ⟨oj, dj, h1, h2, h3, h4⟩ := h
      rcases h4 with ⟨hb, hE⟩ | ⟨hb, hk⟩
      · rw [if_pos (by simp [Region.wanted, hg, yielded_eq hf h1 h2 h3 hb])]
        exact wpIn_of_E hf hs hd hE hN
      · rw [if_neg ?_]
        · exact ⟨aboutW o a w, hN _ _ _ _ (hf.putO hd undef) hs hk⟩
        · rcases hb with hb | hb
          · simp [Region.wanted, hg, yielded_eq hf h1 h2 h3 hb]
          · simp [Region.wanted, hg, yielded_undef hf h1 h2 h3 hb]
theorem opS_mono {ops : Array Oper} {i : Nat} {K K' : Fr → List Res → Prop} (hk : ∀ σ L, K σ L → K' σ L) (h : opS P w0 D n ops i K σ L) : opS P w0 D n ops i K' σ L := by
  unfold opS at *
  split
  · rename_i ho; simp only [ho] at h; exact hk _ _ h
  · rename_i o ho
    simp only [ho] at h
    refine ⟨h.1, ?_⟩
    have h := h.2
    cases hg : o.guard with
    | none => simp only [hg] at h ⊢; exact h.mono fun v L => hk _ _
    | some g =>
      obtain ⟨j, b⟩ := g
      simp only [hg] at h ⊢
      obtain ⟨oj, dj, h1, h2, h3, h4⟩ := h
      exact ⟨oj, dj, h1, h2, h3, h4.imp (fun ⟨x, y⟩ => ⟨x, y.mono fun v L => hk _ _⟩) (fun ⟨x, y⟩ => ⟨x, hk _ _ y⟩)⟩
def anyS (P : Program) (w0 : World) (D : List Nat) (n : Nat) (ops : Array Oper) (nk : List Nat) (L0 : List Res) (K : Fr → List Res → Prop) : Nat → Array Bool → Fr → List Res → Prop
  | 0, listed, σ, L => Region.ready .any ops listed = [] ∧ K σ L
  | fuel + 1, listed, σ, L =>
    (Region.ready .any ops listed = [] → K σ L) ∧
    ∀ i ∈ Region.ready .any ops listed, opS P w0 D n ops i (fun σ' L' => (i ∈ nk ∨ Ent L' L0) ∧ anyS P w0 D n ops nk L0 K fuel (listed.setIfInBounds i true) σ' L') σ L
theorem anyS_sound {ops : Array Oper} {nk : List Nat} {L0 : List Res} {K : Fr → List Res → Prop} {Q : Exit → Act → World → Prop} (hQ : ∀ a w, toN w0 D n ds K .normal a w → Q .normal a w) : ∀ (fuel : Nat) (listed : Array Bool) (σ : Fr) (L : List Res) (a : Act) (w : World),
    FrOK n ds σ a → SH w0 D L w → anyS P w0 D n ops nk L0 K fuel listed σ L → wpAnyIn (FW r) 0 P .any ops Q fuel listed a w
  | 0, _, σ, L, a, w, hf, hs, h => ⟨h.1, hQ _ _ ⟨σ, L, hf, hs, h.2⟩⟩
  | fuel + 1, listed, σ, L, a, w, hf, hs, h => ⟨fun h0 => hQ _ _ ⟨σ, L, hf, hs, h.1 h0⟩, fun i hi => opS_sound hf hs (h.2 i hi) (fun a w σ L h1 h2 h3 => anyS_sound hQ fuel _ σ L a w h1 h2 h3.2)⟩
theorem wpS_any {Q : Post} {id : Nat} {ops : Array Oper} (nk : List Nat) (hm : P.follows .mixedOrders = true) (h : anyS P w0 D n ops nk L (fun σ' L' => Q .normal ds σ' L') ops.size (Array.replicate ops.size false) σ L) :
    wpS P w0 D n r (.region id ops true) Q ds σ L :=
  fun a w hf hs => wpIn_region_any hm (anyS_sound (fun a w hh => toN_Q _ _ _ hh) _ _ _ _ a _ hf hs.drew h)
def Yq (P : Program) (w0 : World) (D : List Nat) (n : Nat) (ops : Array Oper) (L0 : List Res) (o : Oper) (v : Value) (σ : Fr) : Prop :=
  okO n o.dst = true ∧
  match o.guard with
  | none => OpQ P w0 D σ L0 o v
  | some (j, b) => ∃ oj dj, ops[j]? = some oj ∧ oj.dst = some dj ∧ Nat.blt dj n = true ∧
      ((σ dj = .bool b ∧ OpQ P w0 D σ L0 o v) ∨ ((σ dj = .bool (!b) ∨ σ dj = undef) ∧ v = undef))
theorem Yq.opS {ops : Array Oper} {L0 : List Res} {i : Nat} {o : Oper} {v : Value} (hi : ops[i]? = some o) (hy : Yq P w0 D n ops L0 o v σ) (hL : Ent L L0) {K : Fr → List Res → Prop} (h : K (updO σ o.dst v) L) : opS P w0 D n ops i K σ L := by
  unfold Go.Proofs.Ytldkjjnjdjfipaa.opS
  simp only [hi]
  refine ⟨hy.1, ?_⟩
  have hy := hy.2
  cases hg : o.guard with
  | none => simp only [hg] at hy ⊢; exact (hy L hL).E h
  | some g =>
    obtain ⟨j, b⟩ := g
    simp only [hg] at hy ⊢
    obtain ⟨oj, dj, h1, h2, h3, h4⟩ := hy
    refine ⟨oj, dj, h1, h2, h3, h4.imp (fun ⟨x, y⟩ => ⟨x, (y L hL).E h⟩) (fun ⟨x, y⟩ => ⟨x, ?_⟩)⟩
    subst y
    exact h
theorem ev_congr {σ σ' : Fr} {x : Operand} (h : ∀ d, x = .tmp d → σ' d = σ d) : ev σ' x = ev σ x := by
  cases x with
  | tmp t => exact h t rfl
  | _ => rfl
theorem execOp_ev {o : Oper} (hs : ∀ cs b, o.op ≠ .select cs b) {ops : Array Oper} {σ σ' : Fr} (h : ∀ d, d ∈ o.looksAt ops → σ' d = σ d) : execOp (ev σ') o = execOp (ev σ) o :=
  execOp_congr o hs fun x hx => ev_congr fun d hd => h d (by
    subst hd
    exact List.mem_append_left _ (List.mem_filterMap.2 ⟨.tmp d, by simpa using hx, rfl⟩))
theorem guard_looks {o : Oper} {ops : Array Oper} {j : Nat} {b : Bool} {oj : Oper} {dj : Nat} (hg : o.guard = some (j, b)) (hj : ops[j]? = some oj) (hd : oj.dst = some dj) : dj ∈ o.looksAt ops := by
  unfold Oper.looksAt
  exact List.mem_append_right _ (by simp [hg, hj, hd])
theorem OpY.congr {o : Oper} {v : Value} (hsel : ∀ cs b, o.op ≠ .select cs b) {ops : Array Oper} {σ' : Fr} (h : ∀ d, d ∈ o.looksAt ops → σ' d = σ d) (hy : OpY P w0 D σ L o v) : OpY P w0 D σ' L o v := by
  refine ⟨hy.1, fun w hs => ?_⟩
  rw [execOp_ev hsel h]
  exact hy.2 w hs
theorem OpE.congr {o : Oper} {K : Value → List Res → Prop} (hsel : ∀ cs b, o.op ≠ .select cs b) {ops : Array Oper} {σ' : Fr} (h : ∀ d, d ∈ o.looksAt ops → σ' d = σ d) (hy : OpE P w0 D σ L o K) : OpE P w0 D σ' L o K := by
  refine ⟨hy.1, fun w hs => ?_⟩
  rw [execOp_ev hsel h]
  exact hy.2 w hs
theorem Yq.congr {ops : Array Oper} {L0 : List Res} {o : Oper} {v : Value} (hsel : ∀ cs b, o.op ≠ .select cs b) {σ' : Fr} (h : ∀ d, d ∈ o.looksAt ops → σ' d = σ d) (hy : Yq P w0 D n ops L0 o v σ) : Yq P w0 D n ops L0 o v σ' := by
  refine ⟨hy.1, ?_⟩
  have hy := hy.2
  cases hg : o.guard with
  | none => simp only [hg] at hy ⊢; exact fun L' hL => (hy L' hL).congr hsel h
  | some g =>
    obtain ⟨j, b⟩ := g
    simp only [hg] at hy ⊢
    obtain ⟨oj, dj, h1, h2, h3, h4⟩ := hy
    have hdj : σ' dj = σ dj := h dj (guard_looks hg h1 h2)
    exact ⟨oj, dj, h1, h2, h3, by rw [hdj]; exact h4.imp (fun ⟨x, y⟩ => ⟨x, fun L' hL => (y L' hL).congr hsel h⟩) id⟩
theorem updO_ne {d : Option Nat} {v : Value} {i : Nat} (h : ∀ e, d = some e → i ≠ e) : updO σ d v i = σ i := by
  cases d with
  | none => rfl
  | some e => exact upd_ne σ v (h e rfl)
theorem updO_comm {x y : Option Nat} {v u : Value} (h : ∀ d, x = some d → y ≠ some d) : updO (updO σ x v) y u = updO (updO σ y u) x v := by
  cases x with
  | none => rfl
  | some d =>
    cases y with
    | none => rfl
    | some e =>
      have hne : d ≠ e := fun he => h d rfl (he ▸ rfl)
      funext i
      simp only [updO]
      by_cases h1 : i = d
      · subst h1; rw [upd_ne _ _ hne, upd_same, upd_same]
      · by_cases h2 : i = e
        · subst h2; rw [upd_same, upd_ne _ _ h1, upd_same]
        · rw [upd_ne _ _ h2, upd_ne _ _ h1, upd_ne _ _ h1, upd_ne _ _ h2]
theorem opS_put {ops : Array Oper} {L0 : List Res} {j : Nat} {oi oj : Oper} {v : Value} (hj : ops[j]? = some oj) (hap : oi.apart ops oj = true) (hsi : ∀ cs b, oi.op ≠ .select cs b) (hsj : ∀ cs b, oj.op ≠ .select cs b)
    {K : Fr → List Res → Prop} (hy : Yq P w0 D n ops L0 oi v σ) (h : opS P w0 D n ops j K (updO σ oi.dst v) L) :
    opS P w0 D n ops j (fun σ' L' => Yq P w0 D n ops L0 oi v σ' ∧ K (updO σ' oi.dst v) L') σ L := by
  obtain ⟨h1, h2, h3⟩ := Oper.apart_spec hap
  have keep : ∀ u, Yq P w0 D n ops L0 oi v (updO σ oj.dst u) := fun u => hy.congr hsi fun d hd => updO_ne fun e he hde => h3 e he (hde ▸ hd)
  have back : ∀ d, d ∈ oj.looksAt ops → σ d = updO σ oi.dst v d := fun d hd => (updO_ne fun e he hde => h1 e he (hde ▸ hd)).symm
  unfold opS at *
  simp only [hj] at *
  refine ⟨h.1, ?_⟩
  have h := h.2
  cases hg : oj.guard with
  | none =>
    simp only [hg] at h ⊢
    exact (h.congr hsj back).mono fun u L' hk => ⟨keep u, by rw [← updO_comm h2]; exact hk⟩
  | some g =>
    obtain ⟨k, b⟩ := g
    simp only [hg] at h ⊢
    obtain ⟨ok, dk, g1, g2, g3, g4⟩ := h
    have hdk : σ dk = updO σ oi.dst v dk := back dk (guard_looks hg g1 g2)
    refine ⟨ok, dk, g1, g2, g3, ?_⟩
    rw [hdk]
    refine g4.imp (fun ⟨x, y⟩ => ⟨x, (y.congr hsj back).mono fun u L' hk => ⟨keep u, by rw [← updO_comm h2]; exact hk⟩⟩) (fun ⟨x, y⟩ => ⟨x, keep undef, by rw [← updO_comm h2]; exact y⟩)
def depK (ops : Array Oper) : Nat → Nat → Nat → Bool
  | 0, _, _ => false
  | F + 1, j, i => match ops[j]? with
    | some oj => oj.after.any fun e => Region.binds .any e && (Nat.beq e.on i || depK ops F e.on i)
    | none => false
def Closed (ops : Array Oper) (listed : Array Bool) : Prop := ∀ j oj, ops[j]? = some oj → listed.getD j false = true → ∀ e ∈ oj.after, Region.binds .any e = true → listed.getD e.on false = true
def closedB (ops : Array Oper) (listed : Array Bool) : Bool := (List.range ops.size).all fun j => !listed.getD j false || (match ops[j]? with | some oj => oj.after.all fun e => !Region.binds .any e || listed.getD e.on false | none => true)
theorem closed_of {ops : Array Oper} {listed : Array Bool} (h : closedB ops listed = true) : Closed ops listed := fun j oj hj hl e he hb => by
  have h1 := List.all_eq_true.1 h j (List.mem_range.2 (Array.getElem?_eq_some_iff.1 hj).1)
  rw [hl, hj] at h1
  simp only [Bool.not_true, Bool.false_or, Array.all_eq_true_iff_forall_mem] at h1
  have h2 := h1 e he
  rw [hb] at h2
  simpa using h2
theorem getD_ft {listed : Array Bool} {i : Nat} (h : listed.getD i false = true) : listed.getD i true = true := by
  rw [Array.getD_eq_getD_getElem?] at *
  cases hx : listed[i]? <;> simp_all
theorem dep_listed {ops : Array Oper} {listed : Array Bool} {i : Nat} (hcl : Closed ops listed) : ∀ (F j : Nat), listed.getD j false = true → depK ops F j i = true → listed.getD i false = true
  | 0, _, _, h => by cases h
  | F + 1, j, hl, h => by
    unfold depK at h
    split at h
    · rename_i oj hj
      simp only [Array.any_eq_true', Bool.and_eq_true, Bool.or_eq_true] at h
      obtain ⟨e, he, hb, h | h⟩ := h
      · rw [← Nat.eq_of_beq_eq_true h]; exact hcl j oj hj hl e he hb
      · exact dep_listed hcl F e.on (hcl j oj hj hl e he hb) h
    · cases h
theorem dep_ready {ops : Array Oper} {listed : Array Bool} {i : Nat} (hcl : Closed ops listed) {F j : Nat} {oj : Oper} (hj : ops[j]? = some oj) (hall : ∀ e ∈ oj.after, Region.binds .any e = true → listed.getD e.on false = true) (hi : listed.getD i true = false) : depK ops F j i = false := by
  have hc : ¬ listed.getD i false = true := fun h => by rw [getD_ft h] at hi; cases hi
  cases F with
  | zero => rfl
  | succ F =>
    cases hd : depK ops (F + 1) j i with
    | false => rfl
    | true =>
      unfold depK at hd
      rw [hj] at hd
      simp only [Array.any_eq_true', Bool.and_eq_true, Bool.or_eq_true] at hd
      obtain ⟨e, he, hb, h | h⟩ := hd
      · rw [← Nat.eq_of_beq_eq_true h] at hc; exact absurd (hall e he hb) hc
      · exact absurd (dep_listed hcl F e.on (hall e he hb) h) hc
theorem Closed.set {ops : Array Oper} {listed : Array Bool} {j : Nat} {oj : Oper} (hcl : Closed ops listed) (hj : ops[j]? = some oj) (hall : ∀ e ∈ oj.after, Region.binds .any e = true → listed.getD e.on false = true) : Closed ops (listed.setIfInBounds j true) := by
  have up : ∀ k, listed.getD k false = true → (listed.setIfInBounds j true).getD k false = true := fun k hk => by
    rw [Array.getD_eq_getD_getElem?, Array.getElem?_setIfInBounds]
    rw [Array.getD_eq_getD_getElem?] at hk
    split
    · split
      · rfl
      · subst_vars; rename_i h; rw [Array.getElem?_eq_none (by omega)] at hk; exact hk
    · exact hk
  intro k ok hk hl e he hb
  by_cases hjk : j = k
  · subst hjk
    rw [hj] at hk; cases hk
    exact up _ (hall e he hb)
  · refine up _ (hcl k ok hk ?_ e he hb)
    rw [Array.getD_eq_getD_getElem?, Array.getElem?_setIfInBounds, if_neg hjk, ← Array.getD_eq_getD_getElem?] at hl
    exact hl
theorem anyS_first {ops : Array Oper} {nk : List Nat} {L0 : List Res} {K : Fr → List Res → Prop} {i : Nat} {oi : Oper} {v : Value} (F : Nat) (hi : ops[i]? = some oi) (hsel : ∀ (j : Nat) (o : Oper) cs b, ops[j]? = some o → o.op ≠ .select cs b) :
    ∀ (fuel : Nat) (listed : Array Bool) (σ : Fr) (L : List Res), Closed ops listed →
      (∀ j oj, ops[j]? = some oj → j ≠ i → listed.getD j true = false → (∀ e ∈ oj.after, Region.binds .any e = true → e.on ≠ i) → oi.apart ops oj = true ∧ (depK ops F j i = false → j ∉ nk)) →
      i ∈ Region.ready .any ops listed → Yq P w0 D n ops L0 oi v σ → Ent L L0 →
      anyS P w0 D n ops nk L0 K fuel (listed.setIfInBounds i true) (updO σ oi.dst v) L → anyS P w0 D n ops nk L0 K (fuel + 1) listed σ L := by
  intro fuel
  induction fuel with
  | zero =>
    intro listed σ L _ _ hr hy hL H
    refine ⟨fun h => (by rw [h] at hr; cases hr), fun j hj => ?_⟩
    by_cases hji : j = i
    · subst hji; exact hy.opS hi hL ⟨.inr hL, H⟩
    · have := ready_mono hj hji
      rw [H.1] at this
      cases this
  | succ fuel ih =>
    intro listed σ L hcl hfree hr hy hL H
    refine ⟨fun h => (by rw [h] at hr; cases hr), fun j hj => ?_⟩
    by_cases hji : j = i
    · subst hji; exact hy.opS hi hL ⟨.inr hL, H⟩
    · have h1 := H.2 j (ready_mono hj hji)
      obtain ⟨hjun, oj, hoj, hall⟩ := mem_ready.1 hj
      have hnot : ∀ e ∈ oj.after, Region.binds .any e = true → e.on ≠ i := fun e he hb heq => by
        have h1 := hall e he hb
        have h0 := (mem_ready.1 hr).1
        rw [heq] at h1
        rcases Nat.lt_or_ge i listed.size with h' | h'
        · simp [h'] at h0 h1; rw [h0] at h1; cases h1
        · simp [Array.getElem?_eq_none h'] at h1
      have hff := hfree j oj hoj hji hjun hnot
      have hnk : j ∉ nk := hff.2 (dep_ready hcl hoj hall (mem_ready.1 hr).1)
      have h2 := opS_put hoj hff.1 (fun cs b => hsel i oi cs b hi) (fun cs b => hsel j oj cs b hoj) hy h1
      have hfree' : ∀ k ok, ops[k]? = some ok → k ≠ i → (listed.setIfInBounds j true).getD k true = false →
          (∀ e ∈ ok.after, Region.binds .any e = true → e.on ≠ i) → oi.apart ops ok = true ∧ (depK ops F k i = false → k ∉ nk) := fun k ok hk hki hun hno => by
        refine hfree k ok hk hki ?_ hno
        by_cases hjk : j = k
        · subst hjk; exact hjun
        · rw [getD_set_ne true hjk] at hun; exact hun
      refine opS_mono (fun σ' L' h3 => ⟨h3.2.1, ih (listed.setIfInBounds j true) σ' L' (hcl.set hoj hall) hfree' (ready_mono hr (Ne.symm hji)) h3.1 (h3.2.1.resolve_left hnk) ?_⟩) h2
      rw [Array.setIfInBounds_comm _ _ hji]
      exact h3.2.2
theorem anyS_firstF {ops : Array Oper} {nk : List Nat} {L0 : List Res} {K : Fr → List Res → Prop} {i : Nat} {oi : Oper} {v : Value} (hi : ops[i]? = some oi) (hsel : ∀ (j : Nat) (o : Oper) cs b, ops[j]? = some o → o.op ≠ .select cs b) (hnk : i ∈ nk) :
    ∀ (fuel : Nat) (listed : Array Bool) (σ : Fr) (L : List Res),
      (∀ j oj, ops[j]? = some oj → j ≠ i → listed.getD j true = false → (∀ e ∈ oj.after, Region.binds .any e = true → e.on ≠ i) → oi.apart ops oj = true) →
      i ∈ Region.ready .any ops listed → Yq P w0 D n ops [] oi v σ →
      anyS P w0 D n ops nk L0 K fuel (listed.setIfInBounds i true) (updO σ oi.dst v) L → anyS P w0 D n ops nk L0 K (fuel + 1) listed σ L := by
  intro fuel
  induction fuel with
  | zero =>
    intro listed σ L _ hr hy H
    refine ⟨fun h => (by rw [h] at hr; cases hr), fun j hj => ?_⟩
    by_cases hji : j = i
    · subst hji; exact hy.opS hi .nil ⟨.inl hnk, H⟩
    · have := ready_mono hj hji
      rw [H.1] at this
      cases this
  | succ fuel ih =>
    intro listed σ L hfree hr hy H
    refine ⟨fun h => (by rw [h] at hr; cases hr), fun j hj => ?_⟩
    by_cases hji : j = i
    · subst hji; exact hy.opS hi .nil ⟨.inl hnk, H⟩
    · have h1 := H.2 j (ready_mono hj hji)
      obtain ⟨hjun, oj, hoj, hall⟩ := mem_ready.1 hj
      have hnot : ∀ e ∈ oj.after, Region.binds .any e = true → e.on ≠ i := fun e he hb heq => by
        have h1 := hall e he hb
        have h0 := (mem_ready.1 hr).1
        rw [heq] at h1
        rcases Nat.lt_or_ge i listed.size with h' | h'
        · simp [h'] at h0 h1; rw [h0] at h1; cases h1
        · simp [Array.getElem?_eq_none h'] at h1
      have hff := hfree j oj hoj hji hjun hnot
      have h2 := opS_put hoj hff (fun cs b => hsel i oi cs b hi) (fun cs b => hsel j oj cs b hoj) hy h1
      have hfree' : ∀ k ok, ops[k]? = some ok → k ≠ i → (listed.setIfInBounds j true).getD k true = false →
          (∀ e ∈ ok.after, Region.binds .any e = true → e.on ≠ i) → oi.apart ops ok = true := fun k ok hk hki hun hno => by
        refine hfree k ok hk hki ?_ hno
        by_cases hjk : j = k
        · subst hjk; exact hjun
        · rw [getD_set_ne true hjk] at hun; exact hun
      refine opS_mono (fun σ' L' h3 => ⟨h3.2.1, ih (listed.setIfInBounds j true) σ' L' hfree' (ready_mono hr (Ne.symm hji)) h3.1 ?_⟩) h2
      rw [Array.setIfInBounds_comm _ _ hji]
      exact h3.2.2
theorem anyS_takeF {ops : Array Oper} {nk : List Nat} {L0 : List Res} {K : Fr → List Res → Prop} {i : Nat} {oi : Oper} {v : Value} {fuel : Nat} {listed : Array Bool} (hi : ops[i]? = some oi) (hs : Region.noSelect ops = true) (hf : Region.free .any ops listed i = true) (hk : nk.contains i = true)
    (hr : (Region.ready .any ops listed).contains i = true) (hy : Yq P w0 D n ops [] oi v σ)
    (h : anyS P w0 D n ops nk L0 K fuel (listed.setIfInBounds i true) (updO σ oi.dst v) L) : anyS P w0 D n ops nk L0 K (fuel + 1) listed σ L :=
  anyS_firstF hi (Region.noSelect_spec hs) (by simpa using hk) fuel listed σ L (fun j oj h1 h2 h3 h4 => Region.free_spec hi hf j oj h1 h2 h3 h4) (by simpa using hr) hy h
def freeK (ops : Array Oper) (listed : Array Bool) (i : Nat) (nk : List Nat) : Bool :=
  closedB ops listed && nk.all fun j => listed.getD j true || depK ops 3 j i
theorem freeK_spec {ops : Array Oper} {listed : Array Bool} {i : Nat} {nk : List Nat} (h : freeK ops listed i nk = true) {j : Nat} (hl : listed.getD j true = false) (hw : depK ops 3 j i = false) : j ∉ nk := fun hm => by
  unfold freeK at h
  rw [Bool.and_eq_true] at h
  have h1 := List.all_eq_true.1 h.2 j hm
  rw [hl, hw] at h1
  cases h1
theorem anyS_take {ops : Array Oper} {nk : List Nat} {L0 : List Res} {K : Fr → List Res → Prop} {i : Nat} {oi : Oper} {v : Value} {fuel : Nat} {listed : Array Bool} (hi : ops[i]? = some oi) (hs : Region.noSelect ops = true) (hf : Region.free .any ops listed i = true) (hk : freeK ops listed i nk = true)
    (hr : (Region.ready .any ops listed).contains i = true) (hy : Yq P w0 D n ops L0 oi v σ) (hL : Ent L L0)
    (h : anyS P w0 D n ops nk L0 K fuel (listed.setIfInBounds i true) (updO σ oi.dst v) L) : anyS P w0 D n ops nk L0 K (fuel + 1) listed σ L :=
  anyS_first 3 hi (Region.noSelect_spec hs) fuel listed σ L (closed_of (by unfold freeK at hk; rw [Bool.and_eq_true] at hk; exact hk.1)) (fun j oj h1 h2 h3 h4 => ⟨Region.free_spec hi hf j oj h1 h2 h3 h4, freeK_spec hk h3⟩) (by simpa using hr) hy hL h
theorem anyS_done {ops : Array Oper} {nk : List Nat} {L0 : List Res} {K : Fr → List Res → Prop} {fuel : Nat} {listed : Array Bool} (hr : Region.ready .any ops listed = []) (h : K σ L) : anyS P w0 D n ops nk L0 K fuel listed σ L := by
  cases fuel with
  | zero => exact ⟨hr, h⟩
  | succ k => exact ⟨fun _ => h, by rw [hr]; simp⟩
theorem opS_0 {ops : Array Oper} {i : Nat} {K : Fr → List Res → Prop} {d : Option Tmp} {op : Op} {ty : TypeId} {pos : String} {af : Array Edge} (hi : ops[i]? = some ⟨d, op, ty, pos, af, none⟩) (hd : okO n d = true)
    (h : OpE P w0 D σ L ⟨d, op, ty, pos, af, none⟩ (fun v L' => K (updO σ d v) L')) : opS P w0 D n ops i K σ L := by
  unfold opS
  simp only [hi]
  exact ⟨hd, h⟩
theorem anyS_all {ops : Array Oper} {nk : List Nat} {L0 : List Res} {K : Fr → List Res → Prop} {rs : List Nat} {fuel : Nat} {listed : Array Bool} (hr : Region.ready .any ops listed = rs) (hne : rs ≠ [])
    (h : ∀ i ∈ rs, opS P w0 D n ops i (fun σ' L' => (i ∈ nk ∨ Ent L' L0) ∧ anyS P w0 D n ops nk L0 K fuel (listed.setIfInBounds i true) σ' L') σ L) : anyS P w0 D n ops nk L0 K (fuel + 1) listed σ L :=
  ⟨fun h0 => absurd (hr ▸ h0) hne, hr ▸ h⟩
end
end Go.Proofs.Ytldkjjnjdjfipaa
namespace Go.Proofs.Ytldkjjnjdjfipaa
open Go Go.RowKit
set_option linter.unusedVariables false
set_option linter.unusedSimpArgs false
section
variable {P : Program} {w0 : World} {D : List Nat} {n : Nat} {r : Option Nat} {ds : List Nat} {σ : Fr} {L : List Res}
def rUpon (P : Program) (w : World) (v : Value) : Result Next → Prop
  | .ok (.value u) w' => w' = w ∧ u = v
  | .ok (.enter f args) w' => w' = w ∧ Calls P f args w (fun e w'' => e = .returned v ∧ SH w [] [] w'')
  | _ => False
def OpR (P : Program) (w0 : World) (D : List Nat) (σ : Fr) (L : List Res) (op : Op) (v : Value) : Prop :=
  ∀ (d : Option Tmp) (ty : TypeId) (pos : String) (af : Array Edge) (g : Option (Nat × Bool)), (∀ c, op ≠ .defer c) ∧ ∀ w, SH w0 D L w → rUpon P w v ((execOp (ev σ) ⟨d, op, ty, pos, af, g⟩).run P w)
theorem OpR.q {op : Op} {v : Value} (h : OpR P w0 D σ L op v) (d : Option Tmp) (ty : TypeId) (pos : String) (af : Array Edge) (g : Option (Nat × Bool)) : OpQ P w0 D σ L ⟨d, op, ty, pos, af, g⟩ v := fun L' hL => by
  refine ⟨(h d ty pos af g).1, fun w hs => ?_⟩
  have h2 := (h d ty pos af g).2 w (hs.ent hL)
  generalize (execOp (ev σ) ⟨d, op, ty, pos, af, g⟩).run P w = x at *
  cases x with
  | ok y w' =>
    cases y <;> simp only [rUpon] at h2
    case value u => exact h2
    case enter f args =>
      obtain ⟨rfl, hc⟩ := h2
      exact ⟨rfl, hc.mono fun e w' ⟨he, hs'⟩ => ⟨he, hs.frame0 hs'⟩⟩
  | halt x w' => simp only [rUpon] at h2
theorem OpR.y {op : Op} {v : Value} (h : OpR P w0 D σ L op v) (d : Option Tmp) (ty : TypeId) (pos : String) (af : Array Edge) (g : Option (Nat × Bool)) : OpY P w0 D σ L ⟨d, op, ty, pos, af, g⟩ v :=
  h.q d ty pos af g L (Ent.refl L)
theorem s_y {ops : Array Oper} {K : Fr → List Res → Prop} {d : Nat} {op : Op} {ty : TypeId} {pos : String} {af : Array Edge} {l : List Oper} {v : Value} (hy : OpR P w0 D σ L op v) (hd : Nat.blt d n = true)
    (h : wpL P w0 D n r ds ops K l (upd σ d v) L) : wpL P w0 D n r ds ops K (⟨some d, op, ty, pos, af, none⟩ :: l) σ L := wpL_y (d := some d) hd (hy.y _ _ _ _ _) h
theorem s_gy {ops : Array Oper} {K : Fr → List Res → Prop} {d : Nat} {op : Op} {ty : TypeId} {pos : String} {af : Array Edge} {l : List Oper} {j dj : Nat} {o : Oper} {b b' : Bool} {v : Value} (hy : OpR P w0 D σ L op v) (hd : Nat.blt d n = true)
    (hj : ops[j]? = some o) (hdj : o.dst = some dj) (hlt : Nat.blt dj n = true) (hb : σ dj = .bool b') (hbb : b' = b)
    (h : wpL P w0 D n r ds ops K l (upd σ d v) L) : wpL P w0 D n r ds ops K (⟨some d, op, ty, pos, af, some (j, b)⟩ :: l) σ L := wpL_gy (d := some d) hd hj hdj hlt (hbb ▸ hb) (hy.y _ _ _ _ _) h
theorem s_no {ops : Array Oper} {K : Fr → List Res → Prop} {d : Nat} {op : Op} {ty : TypeId} {pos : String} {af : Array Edge} {l : List Oper} {j dj : Nat} {o : Oper} {b b' : Bool} (hd : Nat.blt d n = true)
    (hj : ops[j]? = some o) (hdj : o.dst = some dj) (hlt : Nat.blt dj n = true) (hb : σ dj = .bool b') (hne : b' = !b)
    (h : wpL P w0 D n r ds ops K l (upd σ d undef) L) : wpL P w0 D n r ds ops K (⟨some d, op, ty, pos, af, some (j, b)⟩ :: l) σ L := wpL_no (d := some d) hd hj hdj hlt hb hne h
theorem s_nu {ops : Array Oper} {K : Fr → List Res → Prop} {d : Nat} {op : Op} {ty : TypeId} {pos : String} {af : Array Edge} {l : List Oper} {j dj : Nat} {o : Oper} {b : Bool} (hd : Nat.blt d n = true)
    (hj : ops[j]? = some o) (hdj : o.dst = some dj) (hlt : Nat.blt dj n = true) (hb : σ dj = undef)
    (h : wpL P w0 D n r ds ops K l (upd σ d undef) L) : wpL P w0 D n r ds ops K (⟨some d, op, ty, pos, af, some (j, b)⟩ :: l) σ L := wpL_nu (d := some d) hd hj hdj hlt hb h
def lexS (P : Program) (w0 : World) (D : List Nat) (n : Nat) (ops : Array Oper) (L : List Res) (K : Fr → List Res → Prop) : List Oper → Fr → Prop
  | [], σ => K σ L
  | o :: l, σ => ∃ v, Yq P w0 D n ops L o v σ ∧ lexS P w0 D n ops L K l (updO σ o.dst v)
theorem anyS_lex {ops : Array Oper} {K : Fr → List Res → Prop} (hs : Region.noSelect ops = true) : ∀ (l : List Oper) (k : Nat) (listed : Array Bool) (σ : Fr), Closed ops listed → (∀ j, l[j]? = ops[k + j]?) →
    Region.lexFrom .any ops l.length k listed = true → lexS P w0 D n ops L K l σ → anyS P w0 D n ops [] L K l.length listed σ L
  | [], _, _, _, _, _, hB, h => ⟨by simpa [Region.lexFrom] using hB, h⟩
  | o :: l, k, listed, σ, hcl, hl, hB, h => by
    have h0 : ops[k]? = some o := by simpa using (hl 0).symm
    simp only [List.length_cons, Region.lexFrom, Bool.and_eq_true] at hB
    obtain ⟨⟨hr, hf⟩, hB'⟩ := hB
    obtain ⟨v, hy, hK⟩ := h
    have hrd : k ∈ Region.ready .any ops listed := by simpa using hr
    obtain ⟨-, ok, hok, hall⟩ := mem_ready.1 hrd
    exact anyS_first 0 h0 (Region.noSelect_spec hs) l.length listed σ L hcl (fun j oj h1 h2 h3 h4 => ⟨Region.free_spec h0 hf j oj h1 h2 h3 h4, fun _ => by simp⟩) hrd hy (Ent.refl L)
      (anyS_lex hs l (k + 1) _ _ (hcl.set hok hall) (fun j => by have := hl (j + 1); simpa [Nat.add_assoc, Nat.add_comm 1 j] using this) hB' hK)
theorem closed_none (ops : Array Oper) (k : Nat) : Closed ops (Array.replicate k false) := fun j oj _ hl => by
  rw [Array.getD_eq_getD_getElem?, Array.getElem?_replicate] at hl
  split at hl <;> cases hl
theorem wpS_lex {Q : Post} {id : Nat} {l : List Oper} (hm : P.follows .mixedOrders = true) (hB : Region.lexB .any l.toArray = true) (h : lexS P w0 D n l.toArray L (fun σ' L' => Q .normal ds σ' L') l σ) :
    wpS P w0 D n r (.region id l.toArray true) Q ds σ L := by
  simp only [Region.lexB, Bool.and_eq_true] at hB
  refine wpS_any [] hm ?_
  have := anyS_lex (P := P) (w0 := w0) (D := D) (n := n) (L := L) (ops := l.toArray) (K := fun σ' L' => Q .normal ds σ' L') hB.1 l 0 (Array.replicate l.toArray.size false) σ (closed_none _ _) (by simp) (by simpa using hB.2) h
  simpa using this
theorem x_nil {ops : Array Oper} {K : Fr → List Res → Prop} (h : K σ L) : lexS P w0 D n ops L K [] σ := h
theorem x_y {ops : Array Oper} {K : Fr → List Res → Prop} {d : Nat} {op : Op} {ty : TypeId} {pos : String} {af : Array Edge} {l : List Oper} {v : Value} (hy : OpR P w0 D σ L op v) (hd : Nat.blt d n = true)
    (h : lexS P w0 D n ops L K l (upd σ d v)) : lexS P w0 D n ops L K (⟨some d, op, ty, pos, af, none⟩ :: l) σ := ⟨v, ⟨hd, hy.q _ _ _ _ _⟩, h⟩
theorem x_gy {ops : Array Oper} {K : Fr → List Res → Prop} {d : Nat} {op : Op} {ty : TypeId} {pos : String} {af : Array Edge} {l : List Oper} {j dj : Nat} {o : Oper} {b b' : Bool} {v : Value} (hy : OpR P w0 D σ L op v) (hd : Nat.blt d n = true)
    (hj : ops[j]? = some o) (hdj : o.dst = some dj) (hlt : Nat.blt dj n = true) (hb : σ dj = .bool b') (hbb : b' = b)
    (h : lexS P w0 D n ops L K l (upd σ d v)) : lexS P w0 D n ops L K (⟨some d, op, ty, pos, af, some (j, b)⟩ :: l) σ :=
  ⟨v, ⟨hd, o, dj, hj, hdj, hlt, .inl ⟨hbb ▸ hb, hy.q _ _ _ _ _⟩⟩, h⟩
theorem x_no {ops : Array Oper} {K : Fr → List Res → Prop} {d : Nat} {op : Op} {ty : TypeId} {pos : String} {af : Array Edge} {l : List Oper} {j dj : Nat} {o : Oper} {b b' : Bool} (hd : Nat.blt d n = true)
    (hj : ops[j]? = some o) (hdj : o.dst = some dj) (hlt : Nat.blt dj n = true) (hb : σ dj = .bool b') (hne : b' = !b)
    (h : lexS P w0 D n ops L K l (upd σ d undef)) : lexS P w0 D n ops L K (⟨some d, op, ty, pos, af, some (j, b)⟩ :: l) σ :=
  ⟨undef, ⟨hd, o, dj, hj, hdj, hlt, .inr ⟨.inl (hne ▸ hb), rfl⟩⟩, h⟩
theorem Yq.of {ops : Array Oper} {d : Option Nat} {op : Op} {ty : TypeId} {pos : String} {af : Array Edge} {v : Value} (hy : OpR P w0 D σ L op v) (hd : okO n d = true) : Yq P w0 D n ops L ⟨d, op, ty, pos, af, none⟩ v σ := ⟨hd, hy.q _ _ _ _ _⟩
theorem Yq.no {ops : Array Oper} {d : Option Nat} {op : Op} {ty : TypeId} {pos : String} {af : Array Edge} {j dj : Nat} {o : Oper} {b b' : Bool} (hd : okO n d = true)
    (hj : ops[j]? = some o) (hdj : o.dst = some dj) (hlt : Nat.blt dj n = true) (hb : σ dj = .bool b') (hbb : b' = !b) : Yq P w0 D n ops L ⟨d, op, ty, pos, af, some (j, b)⟩ undef σ := ⟨hd, o, dj, hj, hdj, hlt, .inr ⟨.inl (hbb ▸ hb), rfl⟩⟩
theorem OpR.mk {op : Op} {v : Value} (hd : ∀ c, op ≠ .defer c) (h : ∀ d ty pos af g w, SH w0 D L w → (execOp (ev σ) ⟨d, op, ty, pos, af, g⟩).run P w = .ok (.value v) w) : OpR P w0 D σ L op v :=
  fun d ty pos af g => ⟨hd, fun w hs => by rw [h d ty pos af g w hs]; exact ⟨rfl, rfl⟩⟩
theorem y_move {x : Operand} {v : Value} (h : ev σ x = v) : OpR P w0 D σ L (.move x) v := .mk (by simp) fun d ty pos af g w _ => by simp [execOp, h]
theorem y_assign {x : Operand} {v : Value} (h : ev σ x = v) : OpR P w0 D σ L (.assign x) v := .mk (by simp) fun d ty pos af g w _ => by simp [execOp, h]
theorem y_pick {c x y : Operand} {b : Bool} {v : Value} (hc : ev σ c = .bool b) (h : (if b then ev σ x else ev σ y) = v) : OpR P w0 D σ L (.pick c x y) v := .mk (by simp) fun d ty pos af g w _ => by
  cases b <;> simp_all [execOp, asBool]
theorem y_pickT {c x y : Operand} {b : Bool} {v : Value} (hc : ev σ c = .bool b) (hb : b = true) (h : ev σ x = v) : OpR P w0 D σ L (.pick c x y) v := y_pick hc (by rw [hb]; exact h)
theorem y_pickF {c x y : Operand} {b : Bool} {v : Value} (hc : ev σ c = .bool b) (hb : b = false) (h : ev σ y = v) : OpR P w0 D σ L (.pick c x y) v := y_pick hc (by rw [hb]; exact h)
theorem y_fieldAddr {t : TypeId} {x : Operand} {i b o o' : Nat} {fs : Array Field} {f : Field} {m : Nat} (hx : ev σ x = .pointer (some ⟨b, o, none⟩)) (hu : P.underlying t = some (.struct fs)) (hf : fs[i]? = some f)
    (hs : ∀ w, (sizeOf f.type).run P w = .ok m w) (hm : m ≠ 0) (ho : o + f.offset = o') : OpR P w0 D σ L (.fieldAddr t x i) (.pointer (some ⟨b, o', none⟩)) := .mk (by simp) fun d ty pos af g w _ => by
  subst ho
  simp [execOp, hx, Instr.fieldAt, run_underlying hu, hf, Instr.sureAddr, fieldPlace, hs, hm, Addr.add_lit]
theorem y_not {t : TypeId} {x : Operand} {b : Bool} (hx : ev σ x = .bool b) : OpR P w0 D σ L (.unOp .not t x) (.bool (!b)) := .mk (by simp) fun d ty pos af g w _ => by simp [execOp, hx, Op.unary]
theorem y_notK {t : TypeId} {x : Operand} {b c : Bool} (hx : ev σ x = .bool b) (h : (!b) = c) : OpR P w0 D σ L (.unOp .not t x) (.bool c) := h ▸ y_not hx
end
end Go.Proofs.Ytldkjjnjdjfipaa
namespace Go.Proofs.Ytldkjjnjdjfipaa
open Go Go.RowKit
set_option linter.unusedVariables false
set_option linter.unusedSimpArgs false
section
variable {P : Program} {w0 : World} {D : List Nat} {n : Nat} {r : Option Nat} {ds : List Nat} {σ : Fr} {L : List Res}
def CellsAt (w : World) (b o : Nat) (vs : List Value) : Prop := ∀ j v, vs[j]? = some v → w.cell? ⟨b, o + j, none⟩ = some v
theorem cel_cell {b : Nat} {t : TypeId} {l : List Value} {w : World} (h : (cel b t l).ok w) (j : Nat) : w.cell? ⟨b, j, none⟩ = l[j]? := by
  have h' : w.heap[b]? = some (.cells l.toArray t (0, 0)) := h
  rw [cell_of_row w b j l.toArray t (0, 0) h']
  simp
theorem own1 {b o : Nat} {t : TypeId} {l : List Value} {M : List Res} {v : Value} (hp : Pick L (cel b t l) M) (hv : l[o]? = some v) : ∀ w, SH w0 D L w → w.cell? ⟨b, o, none⟩ = some v :=
  fun w hs => (cel_cell (hs.get hp) o).trans hv
theorem ownN {b o : Nat} {t : TypeId} {l : List Value} {M : List Res} {vs : List Value} (hp : Pick L (cel b t l) M) (hv : (l.drop o).take vs.length = vs) : ∀ w, SH w0 D L w → CellsAt w b o vs :=
  fun w hs j v hj => by
    rw [cel_cell (hs.get hp) (o + j)]
    have hlt : j < vs.length := (List.getElem?_eq_some_iff.1 hj).1
    rw [← hv, List.getElem?_take, if_pos hlt, List.getElem?_drop] at hj
    exact hj
theorem old1 {b o : Nat} {v : Value} (h : w0.cell? ⟨b, o, none⟩ = some v) (hD : b ∉ D) : ∀ w, SH w0 D L w → w.cell? ⟨b, o, none⟩ = some v :=
  fun w hs => (World.cell?_of_block (w := w0) (a := ⟨b, o, none⟩) (hs.old b (World.block_lt_of_cell? w0 ⟨b, o, none⟩ h) hD)).trans h
theorem y_load1 {t : TypeId} {x : Operand} {b o : Nat} {v : Value} (hx : ev σ x = .pointer (some ⟨b, o, none⟩)) (ha : ∀ w, (isAgg t).run P w = .ok false w) (h : ∀ w, SH w0 D L w → w.cell? ⟨b, o, none⟩ = some v) : OpR P w0 D σ L (.load t x) v :=
  .mk (by simp) fun d ty pos af g w hs => by simp [execOp, hx, Instr.loadAt, Instr.sureAddr, loadVar, ha, h w hs]
theorem run_loadAgg {t : TypeId} {b o : Nat} {vs : List Value} {w : World} (ha : ∀ w, (isAgg t).run P w = .ok true w) (hs : ∀ w, (sizeOf t).run P w = .ok vs.length w) (h : CellsAt w b o vs) : (loadVar t ⟨b, o, none⟩).run P w = .ok (.agg vs.toArray) w := by
  have hl := run_loadCells_list (P := P) w ⟨b, o, none⟩ vs (fun j v hj => by rw [Addr.add_lit]; exact h j v hj)
  simp [loadVar, ha, hs, hl]
theorem y_loadN {t : TypeId} {x : Operand} {b o : Nat} {vs : List Value} (hx : ev σ x = .pointer (some ⟨b, o, none⟩)) (ha : ∀ w, (isAgg t).run P w = .ok true w) (hs : ∀ w, (sizeOf t).run P w = .ok vs.length w)
    (h : ∀ w, SH w0 D L w → CellsAt w b o vs) : OpR P w0 D σ L (.load t x) (.agg vs.toArray) :=
  .mk (by simp) fun d ty pos af g w hw => by simp [execOp, hx, Instr.loadAt, Instr.sureAddr, run_loadAgg ha hs (h w hw)]
theorem y_add {t t2 : TypeId} {x y : Operand} {k : IntKind} {a b c : Int} (hx : ev σ x = .int k a) (hy : ev σ y = .int k b) (h : k.wrap (a + b) = c) : OpR P w0 D σ L (.binOp .add t x y t2) (.int k c) :=
  .mk (by simp) fun d ty pos af g w _ => by subst h; simp [execOp, hx, hy, eqGuard, binOp, Op.intArith]
theorem y_sub {t t2 : TypeId} {x y : Operand} {k : IntKind} {a b c : Int} (hx : ev σ x = .int k a) (hy : ev σ y = .int k b) (h : k.wrap (a - b) = c) : OpR P w0 D σ L (.binOp .sub t x y t2) (.int k c) :=
  .mk (by simp) fun d ty pos af g w _ => by subst h; simp [execOp, hx, hy, eqGuard, binOp, Op.intArith]
theorem y_mul {t t2 : TypeId} {x y : Operand} {k : IntKind} {a b c : Int} (hx : ev σ x = .int k a) (hy : ev σ y = .int k b) (h : k.wrap (a * b) = c) : OpR P w0 D σ L (.binOp .mul t x y t2) (.int k c) :=
  .mk (by simp) fun d ty pos af g w _ => by subst h; simp [execOp, hx, hy, eqGuard, binOp, Op.intArith]
theorem y_quo {t t2 : TypeId} {x y : Operand} {k : IntKind} {a b c : Int} (hx : ev σ x = .int k a) (hy : ev σ y = .int k b) (h0 : b ≠ 0) (h : k.wrap (a.tdiv b) = c) : OpR P w0 D σ L (.binOp .quo t x y t2) (.int k c) :=
  .mk (by simp) fun d ty pos af g w _ => by subst h; simp [execOp, hx, hy, eqGuard, binOp, Op.intDiv, h0]
theorem y_rem {t t2 : TypeId} {x y : Operand} {k : IntKind} {a b c : Int} (hx : ev σ x = .int k a) (hy : ev σ y = .int k b) (h0 : b ≠ 0) (h : a.tmod b = c) : OpR P w0 D σ L (.binOp .rem t x y t2) (.int k c) :=
  .mk (by simp) fun d ty pos af g w _ => by subst h; simp [execOp, hx, hy, eqGuard, binOp, Op.intDiv, h0]
theorem y_and {t t2 : TypeId} {x y : Operand} {k : IntKind} {a b c : Int} (hx : ev σ x = .int k a) (hy : ev σ y = .int k b) (h : k.wrap ((BitVec.ofInt k.bits a &&& BitVec.ofInt k.bits b).toNat : Int) = c) : OpR P w0 D σ L (.binOp .and t x y t2) (.int k c) :=
  .mk (by simp) fun d ty pos af g w _ => by subst h; simp [execOp, hx, hy, eqGuard, binOp, Op.intBits]
theorem y_or {t t2 : TypeId} {x y : Operand} {k : IntKind} {a b c : Int} (hx : ev σ x = .int k a) (hy : ev σ y = .int k b) (h : k.wrap ((BitVec.ofInt k.bits a ||| BitVec.ofInt k.bits b).toNat : Int) = c) : OpR P w0 D σ L (.binOp .or t x y t2) (.int k c) :=
  .mk (by simp) fun d ty pos af g w _ => by subst h; simp [execOp, hx, hy, eqGuard, binOp, Op.intBits]
theorem y_xor {t t2 : TypeId} {x y : Operand} {k : IntKind} {a b c : Int} (hx : ev σ x = .int k a) (hy : ev σ y = .int k b) (h : k.wrap ((BitVec.ofInt k.bits a ^^^ BitVec.ofInt k.bits b).toNat : Int) = c) : OpR P w0 D σ L (.binOp .xor t x y t2) (.int k c) :=
  .mk (by simp) fun d ty pos af g w _ => by subst h; simp [execOp, hx, hy, eqGuard, binOp, Op.intBits]
theorem y_andNot {t t2 : TypeId} {x y : Operand} {k : IntKind} {a b c : Int} (hx : ev σ x = .int k a) (hy : ev σ y = .int k b) (h : k.wrap ((BitVec.ofInt k.bits a &&& ~~~ BitVec.ofInt k.bits b).toNat : Int) = c) : OpR P w0 D σ L (.binOp .andNot t x y t2) (.int k c) :=
  .mk (by simp) fun d ty pos af g w _ => by subst h; simp [execOp, hx, hy, eqGuard, binOp, Op.intBits]
theorem y_shl {t t2 : TypeId} {x y : Operand} {k k2 : IntKind} {a b c : Int} (hx : ev σ x = .int k a) (hy : ev σ y = .int k2 b) (h0 : 0 ≤ b) (h : k.wrap (a * 2 ^ min b.toNat k.bits) = c) : OpR P w0 D σ L (.binOp .shl t x y t2) (.int k c) :=
  .mk (by simp) fun d ty pos af g w _ => by subst h; simp [execOp, hx, hy, eqGuard, binOp, shift_shl_any k k2 a b h0]
theorem y_shr {t t2 : TypeId} {x y : Operand} {k k2 : IntKind} {a b c : Int} (hx : ev σ x = .int k a) (hy : ev σ y = .int k2 b) (h0 : 0 ≤ b) (h : a / 2 ^ min b.toNat k.bits = c) : OpR P w0 D σ L (.binOp .shr t x y t2) (.int k c) :=
  .mk (by simp) fun d ty pos af g w _ => by subst h; simp [execOp, hx, hy, eqGuard, binOp, shift_shr_any k k2 a b h0]
theorem beq_dec (a b : Int) : (a == b) = decide (a = b) := by rw [Bool.eq_iff_iff]; simp
theorem y_eql {t t2 : TypeId} {x y : Operand} {k : IntKind} {a b : Int} {c : Bool} (hx : ev σ x = .int k a) (hy : ev σ y = .int k b) (h : decide (a = b) = c) : OpR P w0 D σ L (.binOp .eql t x y t2) (.bool c) :=
  .mk (by simp) fun d ty pos af g w _ => by subst h; simp [execOp, hx, hy, eqGuard, binOp, Op.intCmp, beq_dec]
theorem y_neq {t t2 : TypeId} {x y : Operand} {k : IntKind} {a b : Int} {c : Bool} (hx : ev σ x = .int k a) (hy : ev σ y = .int k b) (h : decide (a ≠ b) = c) : OpR P w0 D σ L (.binOp .neq t x y t2) (.bool c) :=
  .mk (by simp) fun d ty pos af g w _ => by subst h; simp [execOp, hx, hy, eqGuard, binOp, Op.intCmp, bne, beq_dec]
theorem y_lss {t t2 : TypeId} {x y : Operand} {k : IntKind} {a b : Int} {c : Bool} (hx : ev σ x = .int k a) (hy : ev σ y = .int k b) (h : decide (a < b) = c) : OpR P w0 D σ L (.binOp .lss t x y t2) (.bool c) :=
  .mk (by simp) fun d ty pos af g w _ => by subst h; simp [execOp, hx, hy, eqGuard, binOp, Op.intCmp]
theorem y_leq {t t2 : TypeId} {x y : Operand} {k : IntKind} {a b : Int} {c : Bool} (hx : ev σ x = .int k a) (hy : ev σ y = .int k b) (h : decide (a ≤ b) = c) : OpR P w0 D σ L (.binOp .leq t x y t2) (.bool c) :=
  .mk (by simp) fun d ty pos af g w _ => by subst h; simp [execOp, hx, hy, eqGuard, binOp, Op.intCmp]
theorem y_gtr {t t2 : TypeId} {x y : Operand} {k : IntKind} {a b : Int} {c : Bool} (hx : ev σ x = .int k a) (hy : ev σ y = .int k b) (h : decide (b < a) = c) : OpR P w0 D σ L (.binOp .gtr t x y t2) (.bool c) :=
  .mk (by simp) fun d ty pos af g w _ => by subst h; simp [execOp, hx, hy, eqGuard, binOp, Op.intCmp]
theorem y_geq {t t2 : TypeId} {x y : Operand} {k : IntKind} {a b : Int} {c : Bool} (hx : ev σ x = .int k a) (hy : ev σ y = .int k b) (h : decide (b ≤ a) = c) : OpR P w0 D σ L (.binOp .geq t x y t2) (.bool c) :=
  .mk (by simp) fun d ty pos af g w _ => by subst h; simp [execOp, hx, hy, eqGuard, binOp, Op.intCmp]
theorem y_eqlS {t t2 : TypeId} {x y : Operand} {a b : Array Value} {c : Bool} (hg : P.eqGuardType P.depth t = false) (he : ∀ w, (Op.equal t (.agg a) (.agg b)).run P w = .ok c w) (hx : ev σ x = .agg a) (hy : ev σ y = .agg b) : OpR P w0 D σ L (.binOp .eql t x y t2) (.bool c) :=
  .mk (by simp) fun d ty pos af g w _ => by simp [execOp, hx, hy, eqGuard, binOp, hg, he]
theorem y_neg {t : TypeId} {x : Operand} {k : IntKind} {a c : Int} (hx : ev σ x = .int k a) (h : k.wrap (0 - a) = c) : OpR P w0 D σ L (.unOp .neg t x) (.int k c) :=
  .mk (by simp) fun d ty pos af g w _ => by subst h; simp [execOp, hx, Op.unary, Op.intArith]
theorem y_compl {t : TypeId} {x : Operand} {k : IntKind} {a c : Int} (hx : ev σ x = .int k a) (h : k.wrap ((BitVec.ofInt k.bits (if k.signed then -1 else k.max) ^^^ BitVec.ofInt k.bits a).toNat : Int) = c) : OpR P w0 D σ L (.unOp .xor t x) (.int k c) :=
  .mk (by simp) fun d ty pos af g w _ => by subst h; simp [execOp, hx, Op.unary, Op.intBits]
theorem y_convI {t u : TypeId} {x : Operand} {k k2 : IntKind} {a c : Int} {dd : TypeDesc} (hx : ev σ x = .int k a) (ht : P.underlying t = some dd) (hu : P.underlying u = some (.int k2)) (h : k2.wrap a = c) : OpR P w0 D σ L (.convert t u x) (.int k2 c) :=
  .mk (by simp) fun d ty pos af g w _ => by subst h; simp [execOp, hx, convert, run_underlying ht, run_underlying hu, Conv.intToInt]
theorem y_len {t : TypeId} {x : Operand} {a : Option Addr} {m c : Nat} {e ty' : TypeId} {at_ : Array TypeId} (hx : ev σ x = .slice a m c) (ht : P.underlying t = some (.slice e)) : OpR P w0 D σ L (.call { callee := .builtin .len, args := #[x], argTypes := #[t] }) (.int .i64 m) :=
  .mk (by simp) fun d ty pos af g w _ => by simp [execOp, resolve, invoke, builtin, Builtin.len_, hx, run_underlying ht, goInt]
theorem y_cap {t : TypeId} {x : Operand} {a : Option Addr} {m c : Nat} {e : TypeId} (hx : ev σ x = .slice a m c) (ht : P.underlying t = some (.slice e)) : OpR P w0 D σ L (.call { callee := .builtin .cap, args := #[x], argTypes := #[t] }) (.int .i64 c) :=
  .mk (by simp) fun d ty pos af g w _ => by simp [execOp, resolve, invoke, builtin, Builtin.cap_, hx, run_underlying ht, goInt]
theorem y_idxA {t : TypeId} {x y : Operand} {b o m z : Nat} {k : IntKind} {i : Int} {e : TypeId} {o' : Nat} (hx : ev σ x = .pointer (some ⟨b, o, none⟩)) (hy : ev σ y = .int k i) (ht : P.underlying t = some (.array m e)) (hz : ∀ w, (sizeOf e).run P w = .ok z w)
    (h0 : 0 ≤ i) (h1 : i < m) (ho : o + i.toNat * z = o') : OpR P w0 D σ L (.indexAddr t x y) (.pointer (some ⟨b, o', none⟩)) :=
  .mk (by simp) fun d ty pos af g w _ => by subst ho; simp [execOp, hx, hy, Instr.indexAt, Instr.sureAddr, asIntOf, run_underlying ht, hz, h0, h1, Addr.add_lit]
theorem y_extract {x : Operand} {i : Nat} {vs : Array Value} {v : Value} (hx : ev σ x = .tuple vs) (h : vs[i]? = some v) : OpR P w0 D σ L (.extract x i) v :=
  .mk (by simp) fun d ty pos af g w _ => by simp [execOp, hx, Instr.extract, h]
theorem y_makeFunc {fn : Fn} {first captured : Array Operand} {a b : Array Value} (ha : first.map (ev σ) = a) (hb : captured.map (ev σ) = b) : OpR P w0 D σ L (.makeFunc fn first captured) (.func fn a b) :=
  .mk (by simp) fun d ty pos af g w _ => by subst ha; subst hb; simp [execOp, Instr.makeFunc]
theorem y_nilP {x : Operand} {a : Addr} (hx : ev σ x = .pointer (some a)) : OpR P w0 D σ L (.nilCheck x) (.pointer (some a)) :=
  .mk (by simp) fun d ty pos af g w _ => by simp [execOp, hx]
theorem y_build {t : TypeId} {ps : Array (Nat × Operand)} {vs : Array Value} (h : ∀ w, (Instr.build t (ps.map fun (i, x) => (i, ev σ x))).run P w = .ok (.agg vs) w) : OpR P w0 D σ L (.build t ps) (.agg vs) :=
  .mk (by simp) fun d ty pos af g w _ => by simp [execOp, h]
theorem y_index {t : TypeId} {x y : Operand} {v : Value} (h : ∀ w, (Instr.index t (ev σ x) (ev σ y)).run P w = .ok v w) : OpR P w0 D σ L (.index t x y) v :=
  .mk (by simp) fun d ty pos af g w _ => by simp [execOp, h]
theorem y_slice {t : TypeId} {x : Operand} {lo hi mx : Option Operand} {v : Value} (h : ∀ w, (Instr.sliceAt t (ev σ x) (lo.map (ev σ)) (hi.map (ev σ)) (mx.map (ev σ))).run P w = .ok v w) : OpR P w0 D σ L (.slice t x lo hi mx) v :=
  .mk (by simp) fun d ty pos af g w _ => by simp [execOp, h]
theorem y_min {t u : TypeId} {x y : Operand} {k : IntKind} {a b c : Int} (hx : ev σ x = .int k a) (hy : ev σ y = .int k b) (h : (if b < a then b else a) = c) : OpR P w0 D σ L (.call { callee := .builtin .min, args := #[x, y], argTypes := #[t, u] }) (.int k c) :=
  .mk (by simp) fun d ty pos af g w _ => by subst h; simp [execOp, resolve, invoke, builtin, Builtin.min_, Builtin.min2, hx, hy]
theorem y_max {t u : TypeId} {x y : Operand} {k : IntKind} {a b c : Int} (hx : ev σ x = .int k a) (hy : ev σ y = .int k b) (h : (if a < b then b else a) = c) : OpR P w0 D σ L (.call { callee := .builtin .max, args := #[x, y], argTypes := #[t, u] }) (.int k c) :=
  .mk (by simp) fun d ty pos af g w _ => by subst h; simp [execOp, resolve, invoke, builtin, Builtin.max_, Builtin.max2, hx, hy]
def Pure (P : Program) (f : Nat) (args : Array Value) (w : World) (v : Value) : Prop := Calls P f args w (fun e w' => e = .returned v ∧ SH w [] [] w')
theorem y_call {f : Nat} {as : Array Operand} {ts : Array TypeId} {args : Array Value} {v : Value} (hc : ∀ args w, (callFunc f args).run P w = .ok (.enter f args) w) (ha : as.map (ev σ) = args) (h : ∀ w, SH w0 D L w → Pure P f args w v) :
    OpR P w0 D σ L (.call { callee := .value (.func f), args := as, argTypes := ts }) v := fun d ty pos af g => ⟨by simp, fun w hs => by
  have : (execOp (ev σ) ⟨d, .call { callee := .value (.func f), args := as, argTypes := ts }, ty, pos, af, g⟩).run P w = .ok (.enter f args) w := by
    subst ha
    simp [execOp, resolve, Deferred.ofValue, invoke, ev, hc]
  rw [this]
  exact ⟨rfl, h w hs⟩⟩
theorem y_callV {x : Operand} {f : Nat} {as : Array Operand} {ts : Array TypeId} {args cap args' : Array Value} {v : Value} (hx : ev σ x = .func (.func f) #[] cap) (hc : ∀ args w, (callFunc f args).run P w = .ok (.enter f args) w) (ha : as.map (ev σ) = args)
    (ha' : args ++ cap = args') (h : ∀ w, SH w0 D L w → Pure P f args' w v) : OpR P w0 D σ L (.call { callee := .value x, args := as, argTypes := ts }) v := fun d ty pos af g => ⟨by simp, fun w hs => by
  have : (execOp (ev σ) ⟨d, .call { callee := .value x, args := as, argTypes := ts }, ty, pos, af, g⟩).run P w = .ok (.enter f args') w := by
    subst ha; subst ha'
    simp [execOp, resolve, Deferred.ofValue, invoke, hx, hc]
  rw [this]
  exact ⟨rfl, h w hs⟩⟩
end
end Go.Proofs.Ytldkjjnjdjfipaa
namespace Go.Proofs.Ytldkjjnjdjfipaa
open Go Go.RowKit
set_option linter.unusedVariables false
set_option linter.unusedSimpArgs false
def aB (a : Option Addr) : Nat := match a with | some p => p.block | none => 0
def aO (a : Option Addr) : Nat := match a with | some p => p.off | none => 0
def Rds (w : World) (a : Option Addr) (l : List Value) : Prop := ∀ j u, l[j]? = some u → a = some ⟨aB a, aO a, none⟩ ∧ w.cell? ⟨aB a, aO a + j, none⟩ = some u
theorem Rds.nil (w : World) (a : Option Addr) : Rds w a [] := fun j u h => by simp at h
theorem Rds.cells {w : World} {a : Option Addr} {l vs : List Value} (h : Rds w a l) (k : Nat) (hv : (l.drop k).take vs.length = vs) : CellsAt w (aB a) (aO a + k) vs := fun j v hj => by
  have hlt : j < vs.length := (List.getElem?_eq_some_iff.1 hj).1
  rw [← hv, List.getElem?_take, if_pos hlt, List.getElem?_drop] at hj
  have := (h (k + j) v hj).2
  rw [Nat.add_assoc]
  exact this
theorem Rds.head {w : World} {a : Option Addr} {l : List Value} (h : Rds w a l) (hl : 0 < l.length) : a = some ⟨aB a, aO a, none⟩ := (h 0 l[0] (by simp [hl])).1
theorem Rds.below {w w' : World} {a : Option Addr} {l : List Value} (h : Rds w a l) (hb : Below w.heap.size w w') : Rds w' a l := fun j u hj => by
  have := h j u hj
  refine ⟨this.1, ?_⟩
  rw [hb.cell (p := ⟨aB a, aO a + j, none⟩) (World.block_lt_of_cell? w ⟨aB a, aO a + j, none⟩ this.2)]
  exact this.2
theorem Rds.take {w : World} {a : Option Addr} {l : List Value} (h : Rds w a l) (k : Nat) : Rds w a (l.take k) := fun j u hj => by
  rw [List.getElem?_take] at hj
  split at hj
  · exact h j u hj
  · cases hj
def subA (a : Option Addr) (cap lo sz : Nat) : Option Addr := if cap = lo then a else a.map (·.add (lo * sz))
theorem Rds.sub {w : World} {a : Option Addr} {l : List Value} (h : Rds w a l) {cap lo hi sz : Nat} (hc : hi ≤ cap) : Rds w (subA a cap lo sz) ((l.drop (lo * sz)).take ((hi - lo) * sz)) := fun j u hj => by
  rw [List.getElem?_take] at hj
  split at hj
  · rename_i hlt
    rw [List.getElem?_drop] at hj
    have hh := h _ u hj
    have hne : cap ≠ lo := fun e => by
      have : hi - lo = 0 := by omega
      rw [this] at hlt
      omega
    unfold subA
    rw [if_neg hne]
    generalize hb : aB a = b at *
    generalize ho : aO a = o at *
    rw [hh.1]
    have e : (Option.map (fun x => x.add (lo * sz)) (some (⟨b, o, none⟩ : Addr))) = some ⟨b, o + lo * sz, none⟩ := by simp [Addr.add_lit]
    rw [e]
    refine ⟨rfl, ?_⟩
    simp only [aB, aO]
    have := hh.2
    rwa [Nat.add_assoc]
  · cases hj
def osl (a : Option Addr) (cap n sz : Nat) (t : TypeId) (l : List Value) : Res :=
  ⟨(Value.slice a n cap).ownBlock.toList, fun w => w.ownsRow 0 t sz (.slice a n cap) n l, fun w w' h hw => by
    refine ⟨hw.1, ?_⟩
    rcases hw.2 with hn | ⟨g, cap', cur, hv, hb, hg, rest⟩
    · exact .inl hn
    · refine .inr ⟨g, cap', cur, hv, hb, ?_, rest⟩
      rw [h g (by rw [hv]; simp [Value.ownBlock])]
      exact hg⟩
theorem osl_rds {a : Option Addr} {cap n sz : Nat} {t : TypeId} {l : List Value} {w : World} (h : (osl a cap n sz t l).ok w) : Rds w a l := fun j u hj => by
  rcases h.2 with ⟨hv, hn⟩ | ⟨g, cap', cur, hv, hb, hg, hle, hm, hs, ht⟩
  · have hl := h.1
    rw [hn, Nat.zero_mul] at hl
    rw [List.eq_nil_of_length_eq_zero hl] at hj
    simp at hj
  · injection hv with e1 e2 e3
    subst e1
    refine ⟨rfl, ?_⟩
    simp only [aB, aO, Nat.zero_add]
    rw [cell_of_row w g j cur t (0, 0) hg]
    rw [← ht, List.getElem?_take] at hj
    split at hj
    · simpa using hj
    · cases hj
section
variable {P : Program} {w0 : World} {D : List Nat} {n : Nat} {r : Option Nat} {ds : List Nat} {σ : Fr} {L M : List Res}
theorem oslR {a : Option Addr} {cap m sz : Nat} {t : TypeId} {l : List Value} (hp : Pick L (osl a cap m sz t l) M) : ∀ w, SH w0 D L w → Rds w a l := fun w hs => osl_rds (hs.get hp)
theorem osl_cap {a : Option Addr} {cap m sz : Nat} {t : TypeId} {l : List Value} {w : World} (h : (osl a cap m sz t l).ok w) : m ≤ cap := by
  rcases h.2 with ⟨hv, hn⟩ | ⟨g, cap', cur, hv, hb, hg, hle, hm, hs, ht⟩
  · omega
  · injection hv with e1 e2 e3
    omega
theorem oldR {a : Option Addr} {l : List Value} (h : Rds w0 a l) : ∀ w, SH w0 [] L w → Rds w a l := fun w hs => h.below hs.below
theorem oldRD {a : Option Addr} {l : List Value} (h : Rds w0 a l) (hD : aB a ∉ D) : ∀ w, SH w0 D L w → Rds w a l := fun w hs j u hj => by
  have := h j u hj
  exact ⟨this.1, (old1 this.2 hD w hs)⟩
theorem y_idx {t : TypeId} {x y : Operand} {a : Option Addr} {l : List Value} {m c z : Nat} {k : IntKind} {i : Int} {e : TypeId} {o : Nat} (hx : ev σ x = .slice a m c) (hy : ev σ y = .int k i) (ht : P.underlying t = some (.slice e)) (hz : ∀ w, (sizeOf e).run P w = .ok z w)
    (hr : ∀ w, SH w0 D L w → Rds w a l) (hl : l.length = m * z) (hz0 : 0 < z) (h0 : 0 ≤ i) (h1 : i < m) (ho : i.toNat * z = o) : OpR P w0 D σ L (.indexAddr t x y) (.pointer (some ⟨aB a, aO a + o, none⟩)) :=
  .mk (by simp) fun d ty pos af g w hs => by
    have hpos : 0 < l.length := by
      rw [hl]
      exact Nat.mul_pos (by omega) hz0
    have ha := (hr w hs).head hpos
    subst ho
    generalize hb : aB a = b at *
    generalize hoo : aO a = oo at *
    subst ha
    simp [execOp, hx, hy, Instr.indexAt, asIntOf, run_underlying ht, hz, h0, h1, Addr.add_lit]
theorem rd1 {a : Option Addr} {l : List Value} {k : Nat} {v : Value} (hr : ∀ w, SH w0 D L w → Rds w a l) (hv : l[k]? = some v) : ∀ w, SH w0 D L w → w.cell? ⟨aB a, aO a + k, none⟩ = some v := fun w hs => (hr w hs k v hv).2
theorem rdN {a : Option Addr} {l vs : List Value} {k : Nat} (hr : ∀ w, SH w0 D L w → Rds w a l) (hv : (l.drop k).take vs.length = vs) : ∀ w, SH w0 D L w → CellsAt w (aB a) (aO a + k) vs := fun w hs => (hr w hs).cells k hv
theorem y_sliceH {t : TypeId} {x y : Operand} {a : Option Addr} {m c : Nat} {k : IntKind} {i : Int} {e : TypeId} {h' : Nat} {z : Nat} (hx : ev σ x = .slice a m c) (hy : ev σ y = .int k i) (ht : P.underlying t = some (.slice e)) (hz : ∀ w, (sizeOf e).run P w = .ok z w)
    (h0 : 0 ≤ i) (h1 : i ≤ c) (hh : i.toNat = h') : OpR P w0 D σ L (.slice t x none (some y) none) (.slice a h' c) :=
  y_slice fun w => by
    have e1 : (i.toNat : Int) = i := Int.toNat_of_nonneg h0
    subst hh
    simp [hx, hy, Instr.sliceAt, Instr.slice, run_underlying ht, Instr.sliceBounds, Instr.sliceBound, asIntOf, hz, h0, h1]
    cases a <;> simp [Addr.add_zero']
theorem y_sliceL {t : TypeId} {x y : Operand} {a : Option Addr} {m c : Nat} {k : IntKind} {i : Int} {e : TypeId} {l' : Nat} {z : Nat} (hx : ev σ x = .slice a m c) (hy : ev σ y = .int k i) (ht : P.underlying t = some (.slice e)) (hz : ∀ w, (sizeOf e).run P w = .ok z w)
    (h0 : 0 ≤ i) (h1 : i ≤ m) (hh : i.toNat = l') : OpR P w0 D σ L (.slice t x (some y) none none) (.slice (subA a c l' z) (m - l') (c - l')) :=
  y_slice fun w => by
    have e1 : (i.toNat : Int) = i := Int.toNat_of_nonneg h0
    subst hh
    simp [hx, hy, Instr.sliceAt, Instr.slice, run_underlying ht, Instr.sliceBounds, Instr.sliceBound, asIntOf, hz, h0, h1, subA]
theorem y_sliceHM {t : TypeId} {x y u : Operand} {a : Option Addr} {m c : Nat} {k k2 : IntKind} {i j : Int} {e : TypeId} {h' m' : Nat} {z : Nat} (hx : ev σ x = .slice a m c) (hy : ev σ y = .int k i) (hu : ev σ u = .int k2 j) (ht : P.underlying t = some (.slice e)) (hz : ∀ w, (sizeOf e).run P w = .ok z w)
    (h0 : 0 ≤ i) (h1 : i ≤ j) (h2 : j ≤ c) (hl : i.toNat = h') (hh : j.toNat = m') : OpR P w0 D σ L (.slice t x none (some y) (some u)) (.slice a h' m') :=
  y_slice fun w => by
    have e1 : (i.toNat : Int) = i := Int.toNat_of_nonneg h0
    have e2 : (j.toNat : Int) = j := Int.toNat_of_nonneg (by omega)
    subst hl; subst hh
    simp [hx, hy, hu, Instr.sliceAt, Instr.slice, run_underlying ht, Instr.sliceBounds, Instr.sliceBound, asIntOf, hz, h0, h1, h2, (by omega : 0 ≤ j), e2]
    cases a <;> simp [Addr.add_zero']
theorem SH.new (w : World) (o : Obj) : SH w [] [blk w.heap.size o] (w.alloc o) :=
  ⟨rfl, rfl, rfl, by simp, fun k hk _ => Below.heap_alloc w o k hk, fun p hp => by simp at hp; subst hp; exact heap_alloc_new w o,
    fun p hp b hb => by simp at hp; subst hp; simp [blk] at hb; subst hb; simp, by simp⟩
theorem OpE.mk {o : Oper} {K : Value → List Res → Prop} (hd : ∀ c, o.op ≠ .defer c) (h : ∀ w, SH w0 D L w → ∃ v w' L', (execOp (ev σ) o).run P w = .ok (.value v) w' ∧ SH w0 D L' w' ∧ K v L') : OpE P w0 D σ L o K :=
  ⟨hd, fun w hs => .inl (h w hs)⟩
theorem s_e {ops : Array Oper} {K : Fr → List Res → Prop} {d : Nat} {op : Op} {ty : TypeId} {pos : String} {af : Array Edge} {l : List Oper} (hd : Nat.blt d n = true)
    (h : OpE P w0 D σ L ⟨some d, op, ty, pos, af, none⟩ (fun v L' => wpL P w0 D n r ds ops K l (upd σ d v) L')) : wpL P w0 D n r ds ops K (⟨some d, op, ty, pos, af, none⟩ :: l) σ L := wpL_e (d := some d) hd h
theorem s_e0 {ops : Array Oper} {K : Fr → List Res → Prop} {op : Op} {ty : TypeId} {pos : String} {af : Array Edge} {l : List Oper}
    (h : OpE P w0 D σ L ⟨none, op, ty, pos, af, none⟩ (fun v L' => wpL P w0 D n r ds ops K l σ L')) : wpL P w0 D n r ds ops K (⟨none, op, ty, pos, af, none⟩ :: l) σ L := wpL_e (d := none) rfl h
theorem s_ge {ops : Array Oper} {K : Fr → List Res → Prop} {d : Nat} {op : Op} {ty : TypeId} {pos : String} {af : Array Edge} {l : List Oper} {j dj : Nat} {o : Oper} {b b' : Bool} (hd : Nat.blt d n = true)
    (hj : ops[j]? = some o) (hdj : o.dst = some dj) (hlt : Nat.blt dj n = true) (hb : σ dj = .bool b') (hbb : b' = b)
    (h : OpE P w0 D σ L ⟨some d, op, ty, pos, af, some (j, b)⟩ (fun v L' => wpL P w0 D n r ds ops K l (upd σ d v) L')) : wpL P w0 D n r ds ops K (⟨some d, op, ty, pos, af, some (j, b)⟩ :: l) σ L :=
  wpL_ge (d := some d) hd hj hdj hlt (hbb ▸ hb) h
theorem e_box {t : TypeId} {x : Operand} {v : Value} {l : List Value} {K : Value → List Res → Prop} {d : Option Tmp} {ty : TypeId} {pos : String} {af : Array Edge} {g : Option (Nat × Bool)} (hx : ev σ x = v) (hl : v.cells = l.toArray)
    (hK : ∀ b, K (.pointer (some ⟨b, 0, none⟩)) (cel b t l :: L)) : OpE P w0 D σ L ⟨d, .box t x, ty, pos, af, g⟩ K :=
  .mk (by simp) fun w hs => ⟨_, w.alloc (.cells l.toArray t (0, 0)), _, by simp [execOp, hx, Instr.box, newVar, newRow, hl], hs.frame0 (SH.new w _), hK w.heap.size⟩
theorem e_alloc {t : TypeId} {v : Value} {l : List Value} {K : Value → List Res → Prop} {d : Option Tmp} {ty : TypeId} {pos : String} {af : Array Edge} {g : Option (Nat × Bool)} (hz : ∀ w, (zeroValue t).run P w = .ok v w) (hl : v.cells = l.toArray)
    (hK : ∀ b, K (.pointer (some ⟨b, 0, none⟩)) (cel b t l :: L)) : OpE P w0 D σ L ⟨d, .alloc t, ty, pos, af, g⟩ K :=
  .mk (by simp) fun w hs => ⟨_, w.alloc (.cells l.toArray t (0, 0)), _, by simp [execOp, Instr.alloc, hz, newVar, newRow, hl], hs.frame0 (SH.new w _), hK w.heap.size⟩
theorem e_new {o : Oper} {t : TypeId} {l : List Value} {f : Nat → Value} {K : Value → List Res → Prop} (hd : ∀ c, o.op ≠ .defer c) (h : ∀ w, (execOp (ev σ) o).run P w = .ok (.value (f w.heap.size)) (w.alloc (.cells l.toArray t (0, 0)))) (hK : ∀ b, K (f b) (cel b t l :: L)) : OpE P w0 D σ L o K :=
  .mk hd fun w hs => ⟨_, _, _, h w, hs.frame0 (SH.new w _), hK w.heap.size⟩
theorem e_bslice {t e : TypeId} {m : Nat} {ps : Array (Nat × Operand)} {l : List Value} {K : Value → List Res → Prop} {d : Option Tmp} {ty : TypeId} {pos : String} {af : Array Edge} {g : Option (Nat × Bool)}
    (h : ∀ w, (Instr.buildSlice t m (ps.map fun (i, x) => (i, ev σ x))).run P w = .ok (.slice (some ⟨w.heap.size, 0, none⟩) m m) (w.alloc (.cells l.toArray e (0, 0))))
    (hK : ∀ b, K (.slice (some ⟨b, 0, none⟩) m m) (cel b e l :: L)) : OpE P w0 D σ L ⟨d, .buildSlice t m ps, ty, pos, af, g⟩ K :=
  e_new (f := fun b => .slice (some ⟨b, 0, none⟩) m m) (by simp) (fun w => by simp [execOp, h]) hK
theorem SH.row {b : Nat} {t : TypeId} {l l' : List Value} {w : World} (h : SH w0 D (cel b t l :: L) w) : SH w0 D (cel b t l' :: L) (w.setRow b l'.toArray) := by
  have hb : w.heap[b]? = some (.cells l.toArray t (0, 0)) := h.ok (cel b t l) (by simp)
  have ho := h.own (cel b t l) (by simp) b (by simp [cel, blk])
  refine SH.frame (A := [cel b t l]) (A' := [cel b t l']) h ⟨rfl, rfl, rfl, by simp, fun k hk hkD => setRow_other w b k _ (fun e => hkD (by simp [cel, blk, e])), ?_, ?_, by simp⟩
  · intro p hp
    simp at hp; subst hp
    exact setRow_heap w b l.toArray _ t _ hb
  · intro p hp c hc
    simp at hp; subst hp
    simp [cel, blk] at hc; subst hc
    exact ⟨.inr (by simp [cel, blk]), by simpa using ho.2⟩
theorem run_storeAt {t : TypeId} {b o : Nat} {ty : TypeId} {l vs : List Value} {v : Value} {w : World} (hb : w.heap[b]? = some (.cells l.toArray ty (0, 0))) (hv : v.cells = vs.toArray) (hs : ∀ w, (sizeOf t).run P w = .ok vs.length w) (h1 : ∀ u ∈ vs, u.oneCell' = true) (hfit : o + vs.length ≤ l.length) :
    (storeVar t ⟨b, o, none⟩ v).run P w = .ok () (w.setRow b (l.take o ++ vs ++ l.drop (o + vs.length)).toArray) := by
  have := run_storeCells_at P b o ty vs 0 l.toArray w hb (by simpa using hfit) h1
  simp only [Nat.add_zero] at this
  simp [storeVar, hs, hv, this]
theorem e_store {t : TypeId} {a x : Operand} {b o : Nat} {ty' : TypeId} {l l' vs : List Value} {v : Value} {K : Value → List Res → Prop} {d : Option Tmp} {ty : TypeId} {pos : String} {af : Array Edge} {g : Option (Nat × Bool)}
    (ha : ev σ a = .pointer (some ⟨b, o, none⟩)) (hx : ev σ x = v) (hv : v.cells = vs.toArray) (h1 : vs.all Value.oneCell' = true) (hs : ∀ w, (sizeOf t).run P w = .ok vs.length w) (hp : Pick L (cel b ty' l) M) (hfit : o + vs.length ≤ l.length)
    (hl : l.take o ++ vs ++ l.drop (o + vs.length) = l') (hK : K undef (cel b ty' l' :: M)) : OpE P w0 D σ L ⟨d, .store t a x, ty, pos, af, g⟩ K :=
  ⟨by simp, fun w hw => .inr (.inl (by
    have hw' := hw.pick hp
    have hb : w.heap[b]? = some (.cells l.toArray ty' (0, 0)) := hw'.ok (cel b ty' l) (by simp)
    subst hl
    exact ⟨_, _, by simp [execOp, ha, hx, Instr.storeAt, Instr.sureAddr, run_storeAt hb hv hs (by simpa using h1) hfit], hw'.row, hK⟩))⟩
theorem SH.rowO {a : Option Addr} {cap m sz : Nat} {t : TypeId} {l vs : List Value} {k : Nat} {w : World} (h : SH w0 D (osl a cap m sz t l :: L) w) (h1 : ∀ u ∈ vs, u.oneCell' = true) (hv : 0 < vs.length) (hfit : k + vs.length ≤ l.length) {ty : TypeId} {v : Value} (hvc : v.cells = vs.toArray) (hs : ∀ w, (sizeOf ty).run P w = .ok vs.length w) :
    ∃ w', (storeVar ty ⟨aB a, aO a + k, none⟩ v).run P w = .ok () w' ∧ SH w0 D (osl a cap m sz t (l.take k ++ vs ++ l.drop (k + vs.length)) :: L) w' := by
  have hok : w.ownsRow 0 t sz (.slice a m cap) m l := h.ok (osl a cap m sz t l) (by simp)
  have hown := h.own (osl a cap m sz t l) (by simp)
  have hpos : 0 < m * sz := by rw [← hok.1]; omega
  rcases hok.2 with ⟨hvv, hn⟩ | ⟨g, cap', cur, hvv, hb0, hg, hle, hm, hcs, ht⟩
  · rw [hn] at hpos; omega
  · injection hvv with e1 e2 e3
    subst e1; subst e3
    have hlen := hok.1
    have hcl : l.length ≤ cur.size := by rw [hlen, hcs]; exact Nat.mul_le_mul_right _ hle
    have hcur : (⟨cur.toList⟩ : Array Value) = cur := rfl
    have hr := run_storeAt (P := P) (t := ty) (b := g) (o := k) (ty := t) (l := cur.toList) (vs := vs) (v := v) (w := w) (by simpa using hg) hvc hs h1 (by simp; omega)
    simp only [aB, aO, Nat.zero_add]
    refine ⟨_, hr, ?_⟩
    have hsz : (cur.toList.take k ++ vs ++ cur.toList.drop (k + vs.length)).length = cur.size := by simp; omega
    refine SH.frame (A := [osl (some ⟨g, 0, none⟩) cap m sz t l]) (A' := [osl (some ⟨g, 0, none⟩) cap m sz t (l.take k ++ vs ++ l.drop (k + vs.length))]) h ⟨rfl, rfl, rfl, by simp, fun j hj hjD => setRow_other w g j _ (fun e => hjD (by simp [osl, Value.ownBlock, e])), ?_, ?_, by simp⟩
    · intro p hp
      simp at hp; subst hp
      refine ⟨by simp [← hlen]; omega, .inr ⟨g, cap, (cur.toList.take k ++ vs ++ cur.toList.drop (k + vs.length)).toArray, rfl, Nat.zero_le _, setRow_heap w g cur _ t _ hg, hle, hm, ?_, ?_⟩⟩
      · simp only [List.size_toArray]; rw [hsz, hcs]
      · simp only [List.append_assoc, List.toList_toArray] at *
        show (cur.toList.take k ++ (vs ++ cur.toList.drop (k + vs.length))).take (m * sz) = l.take k ++ (vs ++ l.drop (k + vs.length))
        rw [← ht, List.take_take, Nat.min_eq_left (by omega)]
        rw [List.take_append, List.take_append]
        have h2 : (List.take k cur.toList).length = k := by simp; omega
        rw [h2, List.take_of_length_le (by rw [h2]; omega), List.take_of_length_le (l := vs) (by omega)]
        congr 2
        rw [List.drop_take]
        congr 1
        omega
    · intro p hp c hc
      simp at hp; subst hp
      simp [osl, Value.ownBlock] at hc; subst hc
      exact ⟨.inr (by simp [osl, Value.ownBlock]), by simpa using (hown _ (by simp [osl, Value.ownBlock])).2⟩
theorem e_storeO {t : TypeId} {p x : Operand} {a : Option Addr} {cap m sz k : Nat} {ty' : TypeId} {l l' vs : List Value} {v : Value} {K : Value → List Res → Prop} {d : Option Tmp} {ty : TypeId} {pos : String} {af : Array Edge} {g : Option (Nat × Bool)}
    (ha : ev σ p = .pointer (some ⟨aB a, aO a + k, none⟩)) (hx : ev σ x = v) (hv : v.cells = vs.toArray) (h1 : vs.all Value.oneCell' = true) (h0 : 0 < vs.length) (hs : ∀ w, (sizeOf t).run P w = .ok vs.length w) (hp : Pick L (osl a cap m sz ty' l) M) (hfit : k + vs.length ≤ l.length)
    (hl : l.take k ++ vs ++ l.drop (k + vs.length) = l') (hK : K undef (osl a cap m sz ty' l' :: M)) : OpE P w0 D σ L ⟨d, .store t p x, ty, pos, af, g⟩ K :=
  ⟨by simp, fun w hw => .inr (.inl (by
    obtain ⟨w', hr, hs'⟩ := SH.rowO (P := P) (hw.pick hp) (by simpa using h1) h0 hfit hv hs
    subst hl
    exact ⟨w', _, by simp [execOp, ha, hx, Instr.storeAt, Instr.sureAddr, hr], hs', hK⟩))⟩
def SrcS (w : World) (a : Option Addr) (m sz : Nat) (news : List Value) : Prop := news.length = m * sz ∧ Rds w a news
theorem SH.grow {a a' : Option Addr} {cap cap' m m' sz : Nat} {t : TypeId} {l l' : List Value} {w w' : World} (h : SH w0 D (osl a cap m sz t l :: L) w) (hr : w'.ownsRow 0 t sz (.slice a' m' cap') m' l') (hg : w.grownBy w' (Value.slice a m cap).ownBlock)
    (hb : (Value.slice a' m' cap').ownBlock = (Value.slice a m cap).ownBlock ∨ (Value.slice a' m' cap').ownBlock = some w.heap.size) : SH w0 D (osl a' cap' m' sz t l' :: L) w' := by
  have hown := h.own (osl a cap m sz t l) (by simp)
  refine SH.frame (A := [osl a cap m sz t l]) (A' := [osl a' cap' m' sz t l']) h ⟨hg.os, hg.tape, hg.output, hg.size, fun k hk hkD => hg.block k hk (fun e => hkD ?_), ?_, ?_, by simp⟩
  · simp [osl, ← e]
  · intro p hp
    simp at hp; subst hp
    exact hr
  · intro p hp c hc
    simp at hp; subst hp
    have hlt := (hr.lt c (by simpa [osl] using hc)).2
    refine ⟨?_, hlt⟩
    have hc' : (Value.slice a' m' cap').ownBlock = some c := by simpa [osl] using hc
    rcases hb with hb | hb
    · right
      rw [hb] at hc'
      simp [osl, hc']
    · left
      rw [hb] at hc'
      simp at hc'
      omega
theorem e_append {s x : Operand} {t e : TypeId} {i : TypeInfo} {z : Value} {a a2 : Option Addr} {cap m sz k c2 bytes : Nat} {l news : List Value} {K : Value → List Res → Prop} {d : Option Tmp} {ty : TypeId} {pos : String} {af : Array Edge} {g : Option (Nat × Bool)}
    (ht : P.underlying t = some (.slice e)) (hi : P.info? e = some i) (hz : i.zero = some z) (hsize : i.size = sz) (hby : i.bytes = bytes) (hzs : z.cells.size = sz) (hsz : 0 < sz)
    (hs : ev σ s = .slice a m cap) (hx : ev σ x = .slice a2 k c2) (hp : Pick L (osl a cap m sz e l) M) (hsrc : ∀ w, SH w0 D L w → SrcS w a2 k sz news) (h1 : news.all Value.oneCell' = true) (hb : (m + k) * bytes ≤ 140737488355328) (hm : m + k ≤ 9007199254740992)
    (hK : ∀ a' cap', K (.slice a' (m + k) cap') (osl a' cap' (m + k) sz e (l ++ news) :: M)) : OpE P w0 D σ L ⟨d, .call { callee := .builtin .append, args := #[s, x], argTypes := #[t, t] }, ty, pos, af, g⟩ K :=
  .mk (by simp) fun w hw => by
    have hw' := hw.pick hp
    have hrow : w.ownsRow 0 e sz (.slice a m cap) m l := hw'.ok (osl a cap m sz e l) (by simp)
    obtain ⟨hnl, hrd⟩ := hsrc w hw
    have hmax : m + k ≤ maxLen := by unfold maxLen; omega
    cases a2 with
    | some p =>
      have hnews : ∀ j u, news[j]? = some u → w.cell? (p.add j) = some u := fun j u hj => by
        obtain ⟨h2, h3⟩ := hrd j u hj
        injection h2 with h2
        rw [h2, Addr.add_lit]
        exact h3
      obtain ⟨v', w', hr, h2, h3, h4, h5⟩ := run_append_own_at (P := P) w 0 t ty e i z sz bytes ht hi hz hsize hby hzs hsz _ m l hrow p k c2 news hnl hnews (by simpa using h1) hmax hb (Nat.zero_le _)
      have hv : ∃ a' cap', v' = .slice a' (m + k) cap' := by
        rcases h2.2 with ⟨rfl, h⟩ | ⟨g', cap', cur, rfl, _⟩
        · exact ⟨none, 0, by rw [h]⟩
        · exact ⟨_, _, rfl⟩
      obtain ⟨a', cap', rfl⟩ := hv
      refine ⟨_, w', _, ?_, hw'.grow h2 h3 h5, hK a' cap'⟩
      simp [execOp, resolve, invoke, builtin, hs, hx, hr]
    | none =>
      have hn0 : news = [] := by
        cases news with
        | nil => rfl
        | cons u us => have := (hrd 0 u rfl).1; cases this
      subst hn0
      have hk0 : k = 0 := by
        have h2 : k * sz = 0 := by rw [← hnl]; rfl
        rcases Nat.mul_eq_zero.1 h2 with h | h
        · exact h
        · omega
      subst hk0
      refine ⟨.slice a m cap, w, osl a cap m sz e l :: M, ?_, hw', ?_⟩
      · have hle : m ≤ cap := osl_cap (hw'.ok (osl a cap m sz e l) (by simp))
        cases a with
        | none => simp [execOp, resolve, invoke, builtin, hs, hx, Builtin.append_, run_underlying ht, sizeOf, typeInfo, hi, Builtin.lenOf, Builtin.firstCells, hle]
        | some p => simp [execOp, resolve, invoke, builtin, hs, hx, Builtin.append_, run_underlying ht, sizeOf, typeInfo, hi, Builtin.lenOf, Builtin.firstCells, hle, storeCells]
      · have := hK a cap
        simpa using this
theorem e_call {X : Type} {f : Nat} {as : Array Operand} {ts : Array TypeId} {args : Array Value} {A : List Res} {K : Value → List Res → Prop} {V : X → Value} {A' : X → List Res} {C : X → Prop} {d : Option Tmp} {ty : TypeId} {pos : String} {af : Array Edge} {g : Option (Nat × Bool)}
    (hc : ∀ args w, (callFunc f args).run P w = .ok (.enter f args) w) (ha : as.map (ev σ) = args) (hL : Ent L (A ++ M))
    (h : ∀ w, SH w0 D (A ++ M) w → Calls P f args w (fun e w' => ∃ x, e = .returned (V x) ∧ SH w (A.flatMap Res.fp) (A' x) w' ∧ C x)) (hK : ∀ x, C x → K (V x) (A' x ++ M)) :
    OpE P w0 D σ L ⟨d, .call { callee := .value (.func f), args := as, argTypes := ts }, ty, pos, af, g⟩ K := ⟨by simp, fun w hw => .inr (.inr (.inl (by
  have hw' := hw.ent hL
  have he : (execOp (ev σ) ⟨d, .call { callee := .value (.func f), args := as, argTypes := ts }, ty, pos, af, g⟩).run P w = .ok (.enter f args) w := by
    subst ha
    simp [execOp, resolve, Deferred.ofValue, invoke, ev, hc]
  exact ⟨f, args, he, (h w hw').mono fun e w' ⟨x, h1, h2, h3⟩ => ⟨V x, A' x ++ M, h1, hw'.frame h2, hK x h3⟩⟩)))⟩
end
end Go.Proofs.Ytldkjjnjdjfipaa
namespace Go.Proofs.Ytldkjjnjdjfipaa
open Go Go.RowKit
set_option linter.unusedVariables false
set_option linter.unusedSimpArgs false
theorem wI {a c : Int} (h : a = c) (h1 : -9223372036854775808 ≤ c) (h2 : c < 9223372036854775808) : IntKind.i64.wrap a = c := by
  rw [IntKind.wrap_i64]; omega
theorem wU {a c : Int} (h : a = c) (h1 : 0 ≤ c) (h2 : c < 18446744073709551616) : IntKind.u64.wrap a = c := by
  rw [IntKind.wrap_u64]; omega
theorem bv_u (a : UInt64) : BitVec.ofInt 64 (a.toNat : Int) = a.toBitVec := by
  apply BitVec.eq_of_toNat_eq
  rw [BitVec.toNat_ofInt]
  have := a.toBitVec.isLt
  simp only [UInt64.toNat_toBitVec] at *
  have h := UInt64.toNat_lt a
  omega
theorem wrap_bv (x : BitVec 64) : IntKind.u64.wrap (x.toNat : Int) = (x.toNat : Int) := by
  rw [IntKind.wrap_u64]
  have := x.isLt
  omega
theorem u_sub (a b : UInt64) : IntKind.u64.wrap ((a.toNat : Int) - (b.toNat : Int)) = ((a - b).toNat : Int) := by
  rw [IntKind.wrap_u64, UInt64.toNat_sub]
  have h1 := UInt64.toNat_lt a
  have h2 := UInt64.toNat_lt b
  omega
theorem u_and (a b : UInt64) : IntKind.u64.wrap ((BitVec.ofInt IntKind.u64.bits (a.toNat : Int) &&& BitVec.ofInt IntKind.u64.bits (b.toNat : Int)).toNat : Int) = ((a &&& b).toNat : Int) := by
  show IntKind.u64.wrap ((BitVec.ofInt 64 (a.toNat : Int) &&& BitVec.ofInt 64 (b.toNat : Int)).toNat : Int) = _
  rw [bv_u, bv_u, wrap_bv]; rfl
theorem u_or (a b : UInt64) : IntKind.u64.wrap ((BitVec.ofInt IntKind.u64.bits (a.toNat : Int) ||| BitVec.ofInt IntKind.u64.bits (b.toNat : Int)).toNat : Int) = ((a ||| b).toNat : Int) := by
  show IntKind.u64.wrap ((BitVec.ofInt 64 (a.toNat : Int) ||| BitVec.ofInt 64 (b.toNat : Int)).toNat : Int) = _
  rw [bv_u, bv_u, wrap_bv]; rfl
theorem u_xor (a b : UInt64) : IntKind.u64.wrap ((BitVec.ofInt IntKind.u64.bits (a.toNat : Int) ^^^ BitVec.ofInt IntKind.u64.bits (b.toNat : Int)).toNat : Int) = ((a ^^^ b).toNat : Int) := by
  show IntKind.u64.wrap ((BitVec.ofInt 64 (a.toNat : Int) ^^^ BitVec.ofInt 64 (b.toNat : Int)).toNat : Int) = _
  rw [bv_u, bv_u, wrap_bv]; rfl
theorem u_andNot (a b : UInt64) : IntKind.u64.wrap ((BitVec.ofInt IntKind.u64.bits (a.toNat : Int) &&& ~~~ BitVec.ofInt IntKind.u64.bits (b.toNat : Int)).toNat : Int) = ((a &&& ~~~b).toNat : Int) := by
  show IntKind.u64.wrap ((BitVec.ofInt 64 (a.toNat : Int) &&& ~~~ BitVec.ofInt 64 (b.toNat : Int)).toNat : Int) = _
  rw [bv_u, bv_u, wrap_bv]; rfl
theorem u_compl (a : UInt64) : IntKind.u64.wrap ((BitVec.ofInt IntKind.u64.bits (if IntKind.u64.signed then -1 else IntKind.u64.max) ^^^ BitVec.ofInt IntKind.u64.bits (a.toNat : Int)).toNat : Int) = ((~~~a).toNat : Int) := by
  have h : BitVec.ofInt IntKind.u64.bits (if IntKind.u64.signed then -1 else IntKind.u64.max) = BitVec.allOnes 64 := by
    show BitVec.ofInt 64 (if false = true then -1 else IntKind.u64.max) = BitVec.allOnes 64
    decide
  rw [h]
  show IntKind.u64.wrap ((BitVec.allOnes 64 ^^^ BitVec.ofInt 64 (a.toNat : Int)).toNat : Int) = _
  rw [bv_u, wrap_bv, BitVec.allOnes_xor]
  rfl
theorem u_neg (a : UInt64) : IntKind.u64.wrap (0 - (a.toNat : Int)) = ((-a).toNat : Int) := by
  rw [IntKind.wrap_u64, UInt64.toNat_neg]
  have h1 := UInt64.toNat_lt a
  simp only [UInt64.size]
  omega
theorem u_lit (n : Nat) (h : n < 18446744073709551616) : ((UInt64.ofNat n).toNat : Int) = (n : Int) := by
  rw [UInt64.toNat_ofNat_of_lt' h]
theorem u_andL (a : UInt64) (n : Nat) (h : n < 18446744073709551616) : IntKind.u64.wrap ((BitVec.ofInt IntKind.u64.bits (a.toNat : Int) &&& BitVec.ofInt IntKind.u64.bits (n : Int)).toNat : Int) = ((a &&& UInt64.ofNat n).toNat : Int) := by rw [← u_and, u_lit n h]
theorem u_xorL (a : UInt64) (n : Nat) (h : n < 18446744073709551616) : IntKind.u64.wrap ((BitVec.ofInt IntKind.u64.bits (a.toNat : Int) ^^^ BitVec.ofInt IntKind.u64.bits (n : Int)).toNat : Int) = ((a ^^^ UInt64.ofNat n).toNat : Int) := by rw [← u_xor, u_lit n h]
theorem u_shr (a : UInt64) (n : Nat) (h : n < 64) : (a.toNat : Int) / 2 ^ min (n : Int).toNat IntKind.u64.bits = ((a >>> UInt64.ofNat n).toNat : Int) := by
  have e : min (n : Int).toNat IntKind.u64.bits = n := by
    show min (n : Int).toNat 64 = n
    omega
  rw [e, UInt64.toNat_shiftRight]
  have h2 : (UInt64.ofNat n).toNat % 64 = n := by rw [UInt64.toNat_ofNat_of_lt' (by simp only [UInt64.size]; omega)]; omega
  rw [h2, Nat.shiftRight_eq_div_pow]
  simp
theorem u_eql (a b : UInt64) : decide ((a.toNat : Int) = (b.toNat : Int)) = decide (a = b) := by
  simp only [decide_eq_decide]
  constructor
  · intro h; exact UInt64.toNat_inj.1 (by omega)
  · intro h; rw [h]
theorem u_eqlL (a : UInt64) (n : Nat) (h : n < 18446744073709551616) : decide ((a.toNat : Int) = (n : Int)) = decide (a = UInt64.ofNat n) := by rw [← u_eql, u_lit n h]
theorem bv_i (a : Int64) : BitVec.ofInt 64 a.toInt = a.toBitVec := BitVec.ofInt_toInt
theorem wrap_bvi (x : BitVec 64) : IntKind.i64.wrap (x.toNat : Int) = x.toInt := by
  rw [IntKind.wrap_i64, BitVec.toInt_eq_toNat_cond]
  have := x.isLt
  split <;> omega
theorem bmod_wrap (n : Int) : IntKind.i64.wrap n = n.bmod 18446744073709551616 := by
  rw [IntKind.wrap_i64, Int.bmod_def]
  split <;> omega
theorem i_add (a b : Int64) : IntKind.i64.wrap (a.toInt + b.toInt) = (a + b).toInt := by rw [bmod_wrap, Int64.toInt_add]
theorem i_sub (a b : Int64) : IntKind.i64.wrap (a.toInt - b.toInt) = (a - b).toInt := by rw [bmod_wrap, Int64.toInt_sub]
theorem i_mul (a b : Int64) : IntKind.i64.wrap (a.toInt * b.toInt) = (a * b).toInt := by rw [bmod_wrap, Int64.toInt_mul]
theorem i_and (a b : Int64) : IntKind.i64.wrap ((BitVec.ofInt IntKind.i64.bits a.toInt &&& BitVec.ofInt IntKind.i64.bits b.toInt).toNat : Int) = (a &&& b).toInt := by
  show IntKind.i64.wrap ((BitVec.ofInt 64 a.toInt &&& BitVec.ofInt 64 b.toInt).toNat : Int) = _
  rw [bv_i, bv_i, wrap_bvi]; rfl
theorem i_or (a b : Int64) : IntKind.i64.wrap ((BitVec.ofInt IntKind.i64.bits a.toInt ||| BitVec.ofInt IntKind.i64.bits b.toInt).toNat : Int) = (a ||| b).toInt := by
  show IntKind.i64.wrap ((BitVec.ofInt 64 a.toInt ||| BitVec.ofInt 64 b.toInt).toNat : Int) = _
  rw [bv_i, bv_i, wrap_bvi]; rfl
theorem i_xor (a b : Int64) : IntKind.i64.wrap ((BitVec.ofInt IntKind.i64.bits a.toInt ^^^ BitVec.ofInt IntKind.i64.bits b.toInt).toNat : Int) = (a ^^^ b).toInt := by
  show IntKind.i64.wrap ((BitVec.ofInt 64 a.toInt ^^^ BitVec.ofInt 64 b.toInt).toNat : Int) = _
  rw [bv_i, bv_i, wrap_bvi]; rfl
theorem iu_conv (a : Int64) : IntKind.u64.wrap a.toInt = (a.toUInt64.toNat : Int) := by
  rw [IntKind.wrap_u64]
  have h : a.toInt = a.toBitVec.toInt := rfl
  have h2 : a.toUInt64.toNat = a.toBitVec.toNat := rfl
  rw [h, h2, BitVec.toInt_eq_toNat_cond]
  have := a.toBitVec.isLt
  split <;> omega
theorem ui_conv (a : UInt64) : IntKind.i64.wrap (a.toNat : Int) = a.toInt64.toInt := by
  have h : a.toInt64.toInt = a.toBitVec.toInt := rfl
  have h2 : a.toNat = a.toBitVec.toNat := rfl
  rw [h, h2, wrap_bvi]
theorem i_lit (n : Nat) (h : n < 9223372036854775808) : (Int64.ofNat n).toInt = (n : Int) := Int64.toInt_ofNat_of_lt h
theorem i_eql (a b : Int64) : decide (a.toInt = b.toInt) = decide (a = b) := by simp only [decide_eq_decide]; exact Int64.toInt_inj
theorem i_neq (a b : Int64) : decide (a.toInt ≠ b.toInt) = decide (a ≠ b) := by simp only [decide_eq_decide]; exact not_congr Int64.toInt_inj
theorem i_lss (a b : Int64) : decide (a.toInt < b.toInt) = decide (a < b) := by simp only [decide_eq_decide]; exact Int64.lt_iff_toInt_lt.symm
theorem i_neqL (a : Int64) (n : Nat) (h : n < 9223372036854775808) : decide (a.toInt ≠ (n : Int)) = decide (a ≠ Int64.ofNat n) := by rw [← i_neq, i_lit n h]
theorem n_quo (a b : Nat) (hb : 0 < b) (h : (a : Int) < 9223372036854775808) : IntKind.i64.wrap ((a : Int).tdiv (b : Int)) = ((a / b : Nat) : Int) := by
  have e : (a : Int).tdiv (b : Int) = ((a / b : Nat) : Int) := by rw [Int.ofNat_tdiv]
  have : a / b ≤ a := Nat.div_le_self a b
  generalize a / b = c at *
  exact wI e (by omega) (by omega)
theorem n_rem (a b : Nat) (hb : 0 < b) : (a : Int).tmod (b : Int) = ((a % b : Nat) : Int) := by rw [Int.ofNat_tmod]
section
variable {α : Type} {enc : α → List Value} {z : Nat}
theorem fl_len (hz : ∀ x, (enc x).length = z) (xs : List α) : (xs.flatMap enc).length = xs.length * z := by
  induction xs with
  | nil => simp
  | cons x xs ih => simp [ih, hz, Nat.add_mul, Nat.add_comm]
theorem fl_app (xs ys : List α) : (xs ++ ys).flatMap enc = xs.flatMap enc ++ ys.flatMap enc := List.flatMap_append
theorem fl_drop (hz : ∀ x, (enc x).length = z) (xs : List α) (i : Nat) : (xs.flatMap enc).drop (i * z) = (xs.drop i).flatMap enc := by
  induction xs generalizing i with
  | nil => simp
  | cons x xs ih =>
    cases i with
    | zero => simp
    | succ i =>
      rw [List.flatMap_cons, List.drop_succ_cons, ← ih i]
      have e : (i + 1) * z = (enc x).length + i * z := by rw [hz, Nat.add_mul, Nat.one_mul, Nat.add_comm]
      rw [e, List.drop_append, List.drop_eq_nil_of_le (by omega), List.nil_append]
      congr 1
      omega
theorem fl_take (hz : ∀ x, (enc x).length = z) (xs : List α) (i : Nat) : (xs.flatMap enc).take (i * z) = (xs.take i).flatMap enc := by
  induction xs generalizing i with
  | nil => simp
  | cons x xs ih =>
    cases i with
    | zero => simp
    | succ i =>
      rw [List.flatMap_cons, List.take_succ_cons, List.flatMap_cons, ← ih i]
      have e : (i + 1) * z = (enc x).length + i * z := by rw [hz, Nat.add_mul, Nat.one_mul, Nat.add_comm]
      rw [e, List.take_append, List.take_of_length_le (by omega)]
      congr 2
      omega
theorem fl_getN [Inhabited α] (hz : ∀ x, (enc x).length = z) (xs : List α) (i : Nat) (h : i < xs.length) : ((xs.flatMap enc).drop (i * z)).take (enc (xs.getD i default)).length = enc (xs.getD i default) := by
  rw [fl_drop hz, List.drop_eq_getElem_cons h, List.flatMap_cons, List.getD_eq_getElem?_getD, List.getElem?_eq_getElem h]
  exact List.take_left
theorem fl_get1 [Inhabited α] {f : Nat} {v : Value} (hz : ∀ x, (enc x).length = z) (xs : List α) (i : Nat) (h : i < xs.length) (hf : (enc (xs.getD i default))[f]? = some v) : (xs.flatMap enc)[i * z + f]? = some v := by
  have h2 := fl_getN hz xs i h
  have hlt : f < (enc (xs.getD i default)).length := (List.getElem?_eq_some_iff.1 hf).1
  rw [← h2, List.getElem?_take, if_pos hlt, List.getElem?_drop] at hf
  exact hf
theorem fl_get0 [Inhabited α] {v : Value} (hz : ∀ x, (enc x).length = z) (xs : List α) (i : Nat) (h : i < xs.length) (hf : (enc (xs.getD i default))[0]? = some v) : (xs.flatMap enc)[i * z]? = some v := fl_get1 hz xs i h hf
theorem fl_one (h1 : ∀ x, (enc x).all Value.oneCell' = true) (xs : List α) : (xs.flatMap enc).all Value.oneCell' = true := by
  rw [List.all_eq_true]
  intro u hu
  obtain ⟨x, _, hx⟩ := List.mem_flatMap.1 hu
  exact List.all_eq_true.1 (h1 x) u hx
theorem fl_set (hz : ∀ x, (enc x).length = z) (xs : List α) (i : Nat) (h : i < xs.length) (y : α) : (xs.flatMap enc).take (i * z) ++ enc y ++ (xs.flatMap enc).drop (i * z + (enc y).length) = (xs.set i y).flatMap enc := by
  have e : i * z + (enc y).length = (i + 1) * z := by rw [hz, Nat.add_mul, Nat.one_mul]
  rw [e, fl_take hz, fl_drop hz, List.set_eq_take_append_cons_drop, if_pos h, List.flatMap_append, List.flatMap_cons, List.append_assoc]
end
section
variable {P : Program} {w0 : World} {D : List Nat} {n : Nat} {r : Option Nat} {ds : List Nat} {σ : Fr} {L M : List Res}
theorem ev0 : #[].map (ev σ) = #[] := by simp
theorem ev1 {x : Operand} {v : Value} (h : ev σ x = v) : #[x].map (ev σ) = #[v] := by simp [h]
theorem ev2 {x y : Operand} {u v : Value} (h1 : ev σ x = u) (h2 : ev σ y = v) : #[x, y].map (ev σ) = #[u, v] := by simp [h1, h2]
theorem ev3 {x y z : Operand} {u v t : Value} (h1 : ev σ x = u) (h2 : ev σ y = v) (h3 : ev σ z = t) : #[x, y, z].map (ev σ) = #[u, v, t] := by simp [h1, h2, h3]
theorem ev4 {x y z a : Operand} {u v t s : Value} (h1 : ev σ x = u) (h2 : ev σ y = v) (h3 : ev σ z = t) (h4 : ev σ a = s) : #[x, y, z, a].map (ev σ) = #[u, v, t, s] := by simp [h1, h2, h3, h4]
theorem ev5 {x y z a b : Operand} {u v t s q : Value} (h1 : ev σ x = u) (h2 : ev σ y = v) (h3 : ev σ z = t) (h4 : ev σ a = s) (h5 : ev σ b = q) : #[x, y, z, a, b].map (ev σ) = #[u, v, t, s, q] := by simp [h1, h2, h3, h4, h5]
def EvAll (σ : Fr) : List (Nat × Operand) → List (Nat × Value) → Prop
  | [], [] => True
  | (i, x) :: l, (j, v) :: m => (i = j ∧ ev σ x = v) ∧ EvAll σ l m
  | _, _ => False
theorem ev_all {l : List (Nat × Operand)} {m : List (Nat × Value)} (h : EvAll σ l m) : (l.toArray.map fun (i, x) => (i, ev σ x)) = m.toArray := by
  rw [List.map_toArray]
  congr 1
  induction l generalizing m with
  | nil => cases m with
    | nil => rfl
    | cons => exact h.elim
  | cons p l ih =>
    cases m with
    | nil => obtain ⟨i, x⟩ := p; exact h.elim
    | cons q m =>
      obtain ⟨i, x⟩ := p
      obtain ⟨j, v⟩ := q
      obtain ⟨⟨rfl, rfl⟩, h2⟩ := h
      simp only [List.map_cons]
      rw [ih h2]
theorem evn : EvAll σ [] [] := trivial
theorem evc {i : Nat} {x : Operand} {v : Value} {l : List (Nat × Operand)} {m : List (Nat × Value)} (h : ev σ x = v) (t : EvAll σ l m) : EvAll σ ((i, x) :: l) ((i, v) :: m) := ⟨⟨rfl, h⟩, t⟩
theorem y_buildL {t : TypeId} {l : List (Nat × Operand)} {m : List (Nat × Value)} {vs : Array Value} (he : EvAll σ l m) (h : ∀ w, (Instr.build t m.toArray).run P w = .ok (.agg vs) w) : OpR P w0 D σ L (.build t l.toArray) (.agg vs) :=
  y_build fun w => by rw [ev_all he]; exact h w
theorem e_bsliceL {t e : TypeId} {k : Nat} {ps : List (Nat × Operand)} {m : List (Nat × Value)} {l : List Value} {K : Value → List Res → Prop} {d : Option Tmp} {ty : TypeId} {pos : String} {af : Array Edge} {g : Option (Nat × Bool)}
    (he : EvAll σ ps m) (h : ∀ w, (Instr.buildSlice t k m.toArray).run P w = .ok (.slice (some ⟨w.heap.size, 0, none⟩) k k) (w.alloc (.cells l.toArray e (0, 0))))
    (hK : ∀ b, K (.slice (some ⟨b, 0, none⟩) k k) (cel b e l :: L)) : OpE P w0 D σ L ⟨d, .buildSlice t k ps.toArray, ty, pos, af, g⟩ K :=
  e_bslice (fun w => by rw [ev_all he]; exact h w) hK
theorem celR {b : Nat} {t : TypeId} {l : List Value} (hp : Pick L (cel b t l) M) : ∀ w, SH w0 D L w → Rds w (some ⟨b, 0, none⟩) l := fun w hs j u hj => by
  refine ⟨rfl, ?_⟩
  simp only [aB, aO, Nat.zero_add]
  rw [cel_cell (hs.get hp) j]
  exact hj
theorem rvC {w : World} {a : Tmp} {t : TypeId} {b o : Nat} {vs : List Value} (hx : σ a = .pointer (some ⟨b, o, none⟩)) (ha : ∀ w, (isAgg t).run P w = .ok true w) (hz : ∀ w, (sizeOf t).run P w = .ok vs.length w) (h : ∀ w', SH w D M w' → CellsAt w' b o vs) :
    ∀ w', SH w D M w' → (evRV σ (.cell a t)).run P w' = .ok (.agg vs.toArray) w' := fun w' hs => by simp [evRV, hx, asAddr, run_loadAgg ha hz (h w' hs)]
end
end Go.Proofs.Ytldkjjnjdjfipaa
namespace Go.Proofs.Ytldkjjnjdjfipaa
set_option linter.unusedVariables false
set_option linter.unusedSimpArgs false
def b64 (b : Bool) : UInt64 := bif b then 1 else 0
theorem shr63 (x : UInt64) : x >>> 63 = b64 (decide (9223372036854775808 ≤ x.toNat)) := by
  have h1 := UInt64.toNat_lt x
  apply UInt64.toNat_inj.1
  rw [UInt64.toNat_shiftRight, Nat.shiftRight_eq_div_pow]
  show x.toNat / 2 ^ (63 % 64) = _
  unfold b64
  by_cases h : 9223372036854775808 ≤ x.toNat
  · rw [decide_eq_true h]; show x.toNat / 9223372036854775808 = 1; omega
  · rw [decide_eq_false h]; show x.toNat / 9223372036854775808 = 0; omega
def top (x : UInt64) : Bool := decide (9223372036854775808 ≤ x.toNat)
theorem top_msb (x : UInt64) : top x = x.toBitVec.msb := by
  rw [BitVec.msb_eq_decide]; rfl
theorem top_and (x y : UInt64) : top (x &&& y) = (top x && top y) := by rw [top_msb, top_msb, top_msb]; exact BitVec.msb_and
theorem top_or (x y : UInt64) : top (x ||| y) = (top x || top y) := by rw [top_msb, top_msb, top_msb]; exact BitVec.msb_or
theorem top_not (x : UInt64) : top (~~~x) = !top x := by
  rw [top_msb, top_msb]
  have : (~~~x).toBitVec = ~~~x.toBitVec := rfl
  rw [this, BitVec.msb_not]
  simp
theorem ct_less (a b : UInt64) : ((~~~a &&& b) ||| ((~~~a ||| b) &&& (a - b))) >>> 63 = b64 (decide (a < b)) := by
  rw [shr63]
  congr 1
  show top _ = _
  rw [top_or, top_and, top_and, top_or, top_not]
  have h1 := UInt64.toNat_lt a
  have h2 := UInt64.toNat_lt b
  have h3 : (a - b).toNat = (18446744073709551616 - b.toNat + a.toNat) % 18446744073709551616 := by
    rw [UInt64.toNat_sub]
  have h4 : (a < b) ↔ a.toNat < b.toNat := UInt64.lt_iff_toNat_lt
  unfold top
  rw [h3]
  by_cases ha : 9223372036854775808 ≤ a.toNat <;> by_cases hb : 9223372036854775808 ≤ b.toNat <;> simp [ha, hb, h4] <;> omega
theorem ct_below_key (a b : Int64) : decide (a.toUInt64 ^^^ 9223372036854775808 < b.toUInt64 ^^^ 9223372036854775808) = decide (a < b) := by
  simp only [decide_eq_decide]
  rw [UInt64.lt_iff_toNat_lt, Int64.lt_iff_toInt_lt]
  have key : ∀ x : Int64, ((x.toUInt64 ^^^ 9223372036854775808).toNat : Int) = x.toInt + 9223372036854775808 := by
    intro x
    have e1 : x.toInt = x.toBitVec.toInt := rfl
    have e2 : (x.toUInt64 ^^^ 9223372036854775808).toNat = (x.toBitVec ^^^ BitVec.ofNat 64 9223372036854775808).toNat := rfl
    have hx := x.toBitVec.isLt
    have e3 : (x.toBitVec ^^^ BitVec.ofNat 64 9223372036854775808) = x.toBitVec + BitVec.ofNat 64 9223372036854775808 := by
      have : BitVec.ofNat 64 9223372036854775808 = BitVec.intMin 64 := by decide
      rw [this]
      apply BitVec.eq_of_getElem_eq
      intro i hi
      rw [BitVec.getElem_xor, BitVec.getElem_add]
      have hc : BitVec.carry i x.toBitVec (BitVec.intMin 64) false = false := by
        rw [BitVec.carry]
        simp only [Bool.toNat_false, Nat.add_zero, decide_eq_false_iff_not, ge_iff_le, Nat.not_le]
        have hm : (BitVec.intMin 64).toNat % 2 ^ i = 0 := by
          have : (BitVec.intMin 64).toNat = 2 ^ 63 := by decide
          rw [this]
          have hi' : i ≤ 63 := by omega
          obtain ⟨k, hk⟩ := Nat.exists_eq_add_of_le hi'
          rw [hk, Nat.pow_add]
          exact Nat.mul_mod_right _ _
        rw [hm, Nat.add_zero]
        exact Nat.mod_lt _ (Nat.two_pow_pos i)
      rw [hc]
      simp
    rw [e2, e3, e1, BitVec.toNat_add, BitVec.toInt_eq_toNat_cond]
    have : (BitVec.ofNat 64 9223372036854775808).toNat = 9223372036854775808 := by decide
    rw [this]
    split <;> omega
  have ka := key a
  have kb := key b
  omega
theorem ct_same (a b : UInt64) : ((a ^^^ b) ||| -(a ^^^ b)) >>> 63 ^^^ 1 = b64 (decide (a = b)) := by
  have hx : (a ^^^ b = 0) ↔ a = b := by
    constructor
    · intro h
      have : a ^^^ b ^^^ b = 0 ^^^ b := by rw [h]
      rwa [UInt64.xor_assoc, UInt64.xor_self, UInt64.xor_zero, UInt64.zero_xor] at this
    · intro h; rw [h, UInt64.xor_self]
  generalize hd : a ^^^ b = d at *
  rw [shr63]
  have e : decide (9223372036854775808 ≤ (d ||| -d).toNat) = !decide (d = 0) := by
    show top _ = _
    rw [top_or]
    unfold top
    rw [UInt64.toNat_neg]
    have h1 := UInt64.toNat_lt d
    simp only [UInt64.size]
    by_cases h0 : d = 0
    · subst h0; rfl
    · have : d.toNat ≠ 0 := fun h => h0 (UInt64.toNat_inj.1 h)
      rw [decide_eq_false h0]
      simp
      omega
  rw [e]
  by_cases h0 : d = 0
  · have : a = b := hx.1 h0
    simp [h0, this, b64]
  · have : ¬ a = b := fun h => h0 (hx.2 h)
    simp [h0, this, b64]
theorem ct_pick (c a b : UInt64) : (a &&& -(c &&& 1)) ||| (b &&& ~~~(-(c &&& 1))) = if c &&& 1 = 1 then a else b := by
  have h : c &&& 1 = 0 ∨ c &&& 1 = 1 := by
    have : (c &&& 1).toNat = c.toNat % 2 := by
      rw [UInt64.toNat_and]
      show c.toNat &&& 1 = _
      exact Nat.and_one_is_mod _
    rcases Nat.mod_two_eq_zero_or_one c.toNat with h | h
    · left; exact UInt64.toNat_inj.1 (by rw [this, h]; rfl)
    · right; exact UInt64.toNat_inj.1 (by rw [this, h]; rfl)
  rcases h with h | h
  · rw [h]; simp
  · rw [h]
    have e2 : ~~~(-1 : UInt64) = 0 := by decide
    rw [e2, UInt64.and_zero, UInt64.or_zero, UInt64.and_neg_one, if_pos rfl]
end Go.Proofs.Ytldkjjnjdjfipaa
namespace Go.Proofs.Ytldkjjnjdjfipaa
open Go Go.RowKit
set_option linter.unusedVariables false
set_option linter.unusedSimpArgs false
structure Rec where
  dead : Bool
  key : Int64
  value : Int64
  seq : Int64
  deriving DecidableEq, Inhabited
@[reducible] def recV (r : Rec) : List Value := [.bool r.dead, .int .i64 r.key.toInt, .int .i64 r.value.toInt, .int .i64 r.seq.toInt]
theorem recV_len (r : Rec) : (recV r).length = 4 := rfl
theorem recV_one (r : Rec) : (recV r).all Value.oneCell' = true := rfl
def deadR : Rec := ⟨true, 0, 0, 0⟩
def ahead (a b : Rec) : Bool := !a.dead && (b.dead || decide (a.key < b.key))
def before (a b : Rec) : Bool := !a.dead && (b.dead || decide (a.key < b.key) || (decide (a.key = b.key) && decide (a.seq < b.seq)))
@[reducible] def byteV (b : UInt8) : List Value := [.int .u8 (b.toNat : Int)]
theorem byteV_len (r : UInt8) : (byteV r).length = 1 := rfl
theorem byteV_one (r : UInt8) : (byteV r).all Value.oneCell' = true := rfl
@[reducible] def intV (i : Int) : List Value := [.int .i64 i]
theorem intV_len (r : Int) : (intV r).length = 1 := rfl
@[reducible] def i64V (i : Int64) : List Value := [.int .i64 i.toInt]
@[reducible] def u64V (i : UInt64) : List Value := [.int .u64 (i.toNat : Int)]
theorem b64_one (b : Bool) : (b64 b = 1) = (b = true) := by cases b <;> simp [b64]
theorem b64_and (a b : Bool) : b64 a &&& b64 b = b64 (a && b) := by cases a <;> cases b <;> decide
theorem b64_or (a b : Bool) : b64 a ||| b64 b = b64 (a || b) := by cases a <;> cases b <;> decide
theorem b64_not (a : Bool) : b64 a ^^^ 1 = b64 (!a) := by cases a <;> decide
theorem ahead_bits (a b : Rec) : (b64 a.dead ^^^ 1) &&& (b64 b.dead ||| b64 (decide (a.key < b.key))) = b64 (ahead a b) := by
  rw [b64_not, b64_or, b64_and]; rfl
theorem before_bits (a b : Rec) : b64 (ahead a b) ||| (((b64 a.dead ^^^ 1) &&& (b64 b.dead ^^^ 1)) &&& (b64 (decide (a.key.toUInt64 = b.key.toUInt64)) &&& b64 (decide (a.seq < b.seq)))) = b64 (before a b) := by
  have hk : decide (a.key.toUInt64 = b.key.toUInt64) = decide (a.key = b.key) := by
    simp only [decide_eq_decide]
    exact ⟨fun h => by have := congrArg UInt64.toInt64 h; simpa using this, fun h => by rw [h]⟩
  rw [hk, b64_not, b64_not, b64_and, b64_and, b64_and, b64_or]
  congr 1
  unfold ahead before
  cases a.dead <;> cases b.dead <;> simp
theorem pick_i64 (c : UInt64) (x y : Int64) : (if c &&& 1 = 1 then x.toUInt64 else y.toUInt64).toInt64 = if c &&& 1 = 1 then x else y := by
  split <;> simp
section
variable {P : Program}
end
end Go.Proofs.Ytldkjjnjdjfipaa
namespace Go.Proofs.Ytldkjjnjdjfipaa
open Go Go.RowKit
set_option linter.unusedVariables false
set_option linter.unusedSimpArgs false
theorem bv_and (a b : Int) (ha : 0 ≤ a) (ha2 : a < 18446744073709551616) (hb : 0 ≤ b) (hb2 : b < 18446744073709551616) : ((BitVec.ofInt 64 a &&& BitVec.ofInt 64 b).toNat : Int) = ((a.toNat &&& b.toNat : Nat) : Int) := by
  rw [BitVec.toNat_and, BitVec.toNat_ofInt, BitVec.toNat_ofInt]
  congr 2
  · rw [Int.emod_eq_of_lt ha (by simpa using ha2)]
  · rw [Int.emod_eq_of_lt hb (by simpa using hb2)]
theorem zi_and (a b : Int) (ha : 0 ≤ a) (ha2 : a < 9223372036854775808) (hb : 0 ≤ b) (hb2 : b < 9223372036854775808) : IntKind.i64.wrap ((BitVec.ofInt IntKind.i64.bits a &&& BitVec.ofInt IntKind.i64.bits b).toNat : Int) = ((a.toNat &&& b.toNat : Nat) : Int) := by
  have h : a.toNat &&& b.toNat ≤ a.toNat := Nat.and_le_left
  exact wI (bv_and a b ha (by omega) hb (by omega)) (by omega) (by omega)
theorem zu_and (a b : Int) (ha : 0 ≤ a) (ha2 : a < 18446744073709551616) (hb : 0 ≤ b) (hb2 : b < 18446744073709551616) : IntKind.u64.wrap ((BitVec.ofInt IntKind.u64.bits a &&& BitVec.ofInt IntKind.u64.bits b).toNat : Int) = ((a.toNat &&& b.toNat : Nat) : Int) := by
  have h : a.toNat &&& b.toNat ≤ a.toNat := Nat.and_le_left
  exact wU (bv_and a b ha (by omega) hb (by omega)) (by omega) (by omega)
theorem zi_and1 (a : Int) (ha : 0 ≤ a) : IntKind.i64.wrap ((BitVec.ofInt IntKind.i64.bits a &&& BitVec.ofInt IntKind.i64.bits 1).toNat : Int) = ((a.toNat % 2 : Nat) : Int) := by
  obtain ⟨n, rfl⟩ := Int.eq_ofNat_of_zero_le ha
  have e : (BitVec.ofInt 64 (n : Int) &&& BitVec.ofInt 64 1).toNat = n % 2 := by
    rw [BitVec.toNat_and, BitVec.toNat_ofInt, BitVec.toNat_ofInt]
    have h1 : ((1 : Int) % ((2 ^ 64 : Nat) : Int)).toNat = 1 := by decide
    have h2 : ((n : Int) % ((2 ^ 64 : Nat) : Int)).toNat = n % 2 ^ 64 := by rw [← Int.natCast_emod]; rfl
    rw [h1, h2, Nat.and_one_is_mod]
    omega
  refine wI (congrArg (Nat.cast : Nat → Int) (e.trans ?_)) (by omega) (by omega)
  rfl
theorem zs_shr {k : IntKind} {a b : Int} (hk : 64 ≤ k.bits) (h0 : 0 ≤ a) (h : 0 ≤ b) (hb : b ≤ 64) : a / 2 ^ min b.toNat k.bits = ((a.toNat / 2 ^ b.toNat : Nat) : Int) := by
  rw [Nat.min_eq_left (by omega)]
  obtain ⟨n, rfl⟩ := Int.eq_ofNat_of_zero_le h0
  simp
theorem zn_shr {k : IntKind} (a : Int) (b q : Nat) (h : 2 ^ b = q) (hb : b ≤ k.bits) (h0 : 0 ≤ a) : a / 2 ^ min (b : Int).toNat k.bits = ((a.toNat / q : Nat) : Int) := by
  subst h
  obtain ⟨n, rfl⟩ := Int.eq_ofNat_of_zero_le h0
  rw [Int.toNat_natCast, Nat.min_eq_left hb]
  simp
theorem z1_shl (b : Int) (h : 0 ≤ b) (hb : b < 63) : IntKind.i64.wrap (1 * 2 ^ min b.toNat IntKind.i64.bits) = ((2 ^ b.toNat : Nat) : Int) := by
  obtain ⟨n, rfl⟩ := Int.eq_ofNat_of_zero_le h
  have e : min (n : Int).toNat IntKind.i64.bits = n := Nat.min_eq_left (Nat.le_trans (show n ≤ 64 by omega) (by decide))
  have hp : (2 : Nat) ^ n ≤ 2 ^ 62 := Nat.pow_le_pow_right (by decide) (by omega)
  rw [e]
  refine wI ?_ ?_ ?_
  · simp
  · have := Int.natCast_nonneg (2 ^ (n : Int).toNat)
    omega
  · simp only [Int.toNat_natCast]
    have : (2 : Nat) ^ 62 = 4611686018427387904 := by decide
    omega
theorem z_quo {a b : Int} (h0 : 0 ≤ a) (hb : 0 < b) (h : a < 9223372036854775808) : IntKind.i64.wrap (a.tdiv b) = a / b := by
  rw [Int.tdiv_eq_ediv_of_nonneg h0]
  have h1 : 0 ≤ a / b := Int.ediv_nonneg h0 (by omega)
  have h2 : a / b ≤ a := Int.ediv_le_self b h0
  exact wI rfl (by omega) (by omega)
theorem wu8 {n : Nat} (h : n < 256) : IntKind.u8.wrap (n : Int) = (n : Int) := by
  simp [IntKind.wrap, IntKind.signed, IntKind.bits]; omega
def blen (n : Nat) : Nat := if n = 0 then 0 else n.log2 + 1
theorem blen_le {n k : Nat} (h : n < 2 ^ k) : blen n ≤ k := by
  unfold blen
  split
  · omega
  · rename_i h0
    have := (Nat.log2_lt h0).2 h
    omega
theorem lt_blen (n : Nat) : n < 2 ^ blen n := by
  unfold blen
  split
  · simp_all
  · exact Nat.lt_log2_self
theorem blen_ge {n : Nat} (h : 0 < n) : 2 ^ (blen n - 1) ≤ n := by
  unfold blen
  rw [if_neg (by omega)]
  exact Nat.log2_self_le (by omega)
theorem blen_unique {n k : Nat} (h1 : 2 ^ k ≤ n) (h2 : n < 2 ^ (k + 1)) : blen n = k + 1 := by
  have h0 : n ≠ 0 := by have := Nat.two_pow_pos k; omega
  unfold blen
  rw [if_neg h0, (Nat.log2_eq_iff h0).2 ⟨h1, h2⟩]
theorem blen_shift (n k : Nat) (h : 2 ^ k ≤ n) : k + blen (n / 2 ^ k) = blen n := by
  have hp := Nat.two_pow_pos k
  have h1 : 0 < n / 2 ^ k := Nat.div_pos h hp
  have a := blen_ge h1
  have b := lt_blen (n / 2 ^ k)
  have hb : 0 < blen (n / 2 ^ k) := by unfold blen; rw [if_neg (by omega)]; omega
  obtain ⟨m, hm⟩ : ∃ m, blen (n / 2 ^ k) = m + 1 := ⟨blen (n / 2 ^ k) - 1, by omega⟩
  rw [hm] at a b ⊢
  rw [Nat.add_sub_cancel, Nat.le_div_iff_mul_le hp, ← Nat.pow_add] at a
  rw [Nat.div_lt_iff_lt_mul hp, ← Nat.pow_add] at b
  have := blen_unique (k := m + k) a (by rw [show m + k + 1 = m + 1 + k by omega]; exact b)
  omega
section
variable {P : Program} {w0 : World} {D : List Nat} {σ : Fr} {L : List Res}
theorem y_lenTab {t : TypeId} {x y : Operand} {k : IntKind} {s : ByteArray} {i : Nat} (hx : ev σ x = .string s) (hy : ev σ y = .int k i) (ht : P.underlying t = some .string) (h : (List.range 256).all (fun i => s[i]?.map (·.toNat) == some (blen i)) = true) (hi : i < 256) :
    OpR P w0 D σ L (.index t x y) (.int .u8 ((blen i : Nat) : Int)) := y_index fun w => by
  have h1 := List.all_eq_true.1 h i (List.mem_range.2 hi)
  simp only [beq_iff_eq] at h1
  rw [hx, hy, run_index_string w t s k i ht]
  cases hs : s[i]? with
  | none => rw [hs] at h1; simp at h1
  | some b =>
    rw [hs] at h1
    have hlt : i < s.size := by
      by_cases hc : i < s.size
      · exact hc
      · rw [getElem?_neg s i hc] at hs; cases hs
    have hg : (s[i]'hlt) = b := by
      rw [getElem?_pos s i hlt] at hs; exact Option.some.inj hs
    rw [dif_pos ⟨by omega, by omega⟩]
    simp only [Int.toNat_natCast, hg]
    simp at h1
    rw [h1]
end
end Go.Proofs.Ytldkjjnjdjfipaa
namespace Go.Proofs.Ytldkjjnjdjfipaa
open Go Go.RowKit
set_option linter.unusedVariables false
set_option linter.unusedSimpArgs false
theorem rds_none {α : Type} {enc : α → List Value} {z : Nat} {w : World} {a : Option Addr} {l : List α} (hz : ∀ x, (enc x).length = z) (hp : 0 < z) (hr : Rds w a (l.flatMap enc)) (ha : a = none) : l = [] := by
  cases l with
  | nil => rfl
  | cons x l =>
    exfalso
    have h := Rds.head hr (by rw [fl_len hz]; simp [hp])
    rw [ha] at h; cases h
section
variable {P : Program} {w0 : World} {D : List Nat} {σ : Fr} {L L' M : List Res}
theorem OpE.ent {o : Oper} {K : Value → List Res → Prop} (he : ∀ w, SH w0 D L w → SH w0 D L' w) (h : OpE P w0 D σ L' o K) : OpE P w0 D σ L o K := ⟨h.1, fun w hs => h.2 w (he w hs)⟩
theorem OpE.y {op : Op} {v : Value} {K : Value → List Res → Prop} {d : Option Tmp} {ty : TypeId} {pos : String} {af : Array Edge} {g : Option (Nat × Bool)} (hy : OpR P w0 D σ L op v) (hK : K v L) : OpE P w0 D σ L ⟨d, op, ty, pos, af, g⟩ K := OpY.E (OpR.y hy _ _ _ _ _) hK
theorem SH.nil0 {sz : Nat} {t : TypeId} (w : World) (h : SH w0 D L w) : SH w0 D (osl none 0 0 sz t [] :: L) w := by
  refine ⟨h.os, h.tape, h.output, h.size, h.old, ?_, ?_, ?_⟩
  · intro p hp
    rcases List.mem_cons.1 hp with rfl | hp
    · exact ⟨by simp, .inl ⟨rfl, rfl⟩⟩
    · exact h.ok p hp
  · intro p hp b hb
    rcases List.mem_cons.1 hp with rfl | hp
    · simp [osl, Value.ownBlock] at hb
    · exact h.own p hp b hb
  · exact List.pairwise_cons.2 ⟨fun q hq b hb => by simp [osl, Value.ownBlock] at hb, h.disj⟩
theorem SH.celO {b n sz : Nat} {t : TypeId} {l : List Value} (hp : Pick L (cel b t l) M) (hl : l.length = n * sz) (hm : n ≤ maxLen) (w : World) (h : SH w0 D L w) : SH w0 D (osl (some ⟨b, 0, none⟩) n n sz t l :: M) w :=
  SH.weaken (h.pick hp) ⟨fun c hc => by simpa [osl, Value.ownBlock, cel, blk] using hc, fun w' hw' => by
    have hw2 : w'.heap[b]? = some (.cells l.toArray t (0, 0)) := hw'
    exact ⟨hl, .inr ⟨b, n, l.toArray, rfl, Nat.zero_le _, hw2, Nat.le_refl _, hm, by simpa using hl, by simp [← hl]⟩⟩⟩
theorem y_isNil {t t2 : TypeId} {x y : Operand} {e : TypeId} {a : Option Addr} {l c : Nat} (hx : ev σ x = .slice a l c) (hy : ev σ y = .slice none 0 0) (ht : P.underlying t = some (.slice e)) (hg : P.eqGuardType P.depth t = false) : OpR P w0 D σ L (.binOp .eql t x y t2) (.bool a.isNone) :=
  .mk (by simp) fun d ty pos af g w _ => by simp [execOp, hx, hy, eqGuard, binOp, run_equal_slice_nil _ t e a l c ht, hg]
theorem finNil {e : Exit} {ds : List Nat} {fn : Func} {R : Ending → World → Prop} {t : Tmp} {sz : Nat} {ty : TypeId} (he : e = .normal ∨ e = .ret) (hE : Ent L (ds.map dfr ++ [])) (hr : fn.results = #[.tmp t]) (hv : σ t = .slice none 0 0)
    (hR : ∀ w', SH w0 D [osl none 0 0 sz ty []] w' → R (.returned (.slice none 0 0)) w') : finS P w0 D fn R e ds σ L := fin1 he hE hr hv fun w' hs => hR w' (SH.nil0 w' hs)
theorem wpL_ent {n : Nat} {r : Option Nat} {ds : List Nat} {ops : Array Oper} {K : Fr → List Res → Prop} {l : List Oper} (he : ∀ w, SH w0 D L w → SH w0 D L' w) (h : wpL P w0 D n r ds ops K l σ L') : wpL P w0 D n r ds ops K l σ L := fun a w hf hs => h a w hf (he w hs)
theorem wpS_cap {n : Nat} {r : Option Nat} {fnr : Code} {Q : Exit → List Nat → Fr → List Res → Prop} {ds : List Nat} {a : Option Addr} {c m sz : Nat} {t : TypeId} {l : List Value} (hp : Pick L (osl a c m sz t l) M) (h : m ≤ c → wpS P w0 D n r fnr Q ds σ L) : wpS P w0 D n r fnr Q ds σ L := fun a w hf hs => h (osl_cap (hs.get hp)) a w hf hs
theorem wpS_nil0 {n : Nat} {r : Option Nat} {fnr : Code} {Q : Exit → List Nat → Fr → List Res → Prop} {ds : List Nat} (sz : Nat) (t : TypeId) (h : wpS P w0 D n r fnr Q ds σ (osl none 0 0 sz t [] :: L)) : wpS P w0 D n r fnr Q ds σ L := fun a w hf hs => h a w hf (SH.nil0 w hs)
theorem e_appendL {α : Type} {enc : α → List Value} {s x : Operand} {t e : TypeId} {i : TypeInfo} {z : Value} {a a2 : Option Addr} {cap m sz k c2 bytes : Nat} {xs ns zs : List α} {K : Value → List Res → Prop} {d : Option Tmp} {ty : TypeId} {pos : String} {af : Array Edge} {g : Option (Nat × Bool)}
    (hlen : ∀ x, (enc x).length = sz) (hone : ∀ x, (enc x).all Value.oneCell' = true)
    (ht : P.underlying t = some (.slice e)) (hi : P.info? e = some i) (hz : i.zero = some z) (hsize : i.size = sz) (hby : i.bytes = bytes) (hzs : z.cells.size = sz) (hsz : 0 < sz)
    (hs : ev σ s = .slice a m cap) (hx : ev σ x = .slice a2 k c2) (hm : m = xs.length) (hk : k = ns.length) (hp : Pick L (osl a cap m sz e (xs.flatMap enc)) M) (hsrc : ∀ w, SH w0 D L w → Rds w a2 (ns.flatMap enc)) (hzz : xs ++ ns = zs) (hb : zs.length * bytes ≤ 140737488355328) (hb2 : zs.length ≤ 9007199254740992)
    (hK : ∀ a' cap', K (.slice a' zs.length cap') (osl a' cap' zs.length sz e (zs.flatMap enc) :: M)) : OpE P w0 D σ L ⟨d, .call { callee := .builtin .append, args := #[s, x], argTypes := #[t, t] }, ty, pos, af, g⟩ K := by
  subst hm; subst hk; subst hzz
  rw [List.length_append] at hb hb2
  refine e_append (news := ns.flatMap enc) (bytes := bytes) ht hi hz hsize hby hzs hsz hs hx hp (fun w hw => ⟨fl_len hlen _, hsrc w hw⟩) (fl_one hone _) hb hb2 ?_
  intro a' cap'
  have := hK a' cap'
  rw [List.length_append, fl_app] at this
  exact this
theorem e_storeL {α : Type} {enc : α → List Value} {t : TypeId} {p x : Operand} {a : Option Addr} {cap m sz i : Nat} {ty' : TypeId} {xs : List α} {y : α} {v : Value} {K : Value → List Res → Prop} {d : Option Tmp} {ty : TypeId} {pos : String} {af : Array Edge} {g : Option (Nat × Bool)}
    (hlen : ∀ x, (enc x).length = sz) (hone : ∀ x, (enc x).all Value.oneCell' = true) (hsz : 0 < sz)
    (ha : ev σ p = .pointer (some ⟨aB a, aO a + i * sz, none⟩)) (hx : ev σ x = v) (hv : v.cells = (enc y).toArray) (hs : ∀ w, (sizeOf t).run P w = .ok sz w) (hp : Pick L (osl a cap m sz ty' (xs.flatMap enc)) M) (hi : i < xs.length)
    (hK : K undef (osl a cap m sz ty' ((xs.set i y).flatMap enc) :: M)) : OpE P w0 D σ L ⟨d, .store t p x, ty, pos, af, g⟩ K := by
  refine e_storeO (vs := enc y) (l' := (xs.set i y).flatMap enc) ha hx hv (hone y) (by rw [hlen]; exact hsz) (by rw [hlen]; exact hs) hp ?_ (fl_set hlen xs i hi y) hK
  rw [hlen, fl_len hlen]
  have : i * sz + sz = (i + 1) * sz := by rw [Nat.succ_mul]
  rw [this]
  exact Nat.mul_le_mul_right _ hi
theorem run_appendZ0 (w : World) (t ti ty e : TypeId) (i : TypeInfo) (z : Value) (size bytes : Nat) (ht : P.underlying t = some (.slice e)) {k : IntKind} (hti : P.underlying ti = some (.int k)) (hi : P.info? e = some i) (hz : i.zero = some z)
    (hsize : i.size = size) (hby : i.bytes = bytes) (hzs : z.cells.size = size) (hsz : 0 < size) (hb0 : 0 < bytes) (kx : IntKind) (m : Nat) (hm0 : 0 < m) (hbytes : m * bytes ≤ 140737488355328) :
    ∃ c w', (Builtin.append_ #[t, ti] ty #[.slice none 0 0, .int kx m]).run P w = .ok (.slice (some ⟨w.heap.size, 0, none⟩) m c) w' ∧
      w'.ownsRow 0 e size (.slice (some ⟨w.heap.size, 0, none⟩) m c) m (Builtin.zeroCells z.cells m).toList ∧ w.grownBy w' none := by
  subst hsize
  subst hby
  have hle : m ≤ 140737488355328 := Nat.le_trans (Nat.le_mul_of_pos_right _ hb0) hbytes
  have h63 : m ≤ maxLen := by simp only [maxLen]; omega
  have hw : IntKind.i64.wrap (m : Int) = m := wI rfl (by omega) (by omega)
  have hneg : ¬ ((m : Int) < 0) := by omega
  have hbig : ¬ (281474976710656 < (m : Int) * (i.bytes : Int)) := by
    rw [← Int.natCast_mul]
    omega
  have hsn : i.size ≠ 0 := by omega
  have hn : m ≠ 0 := by omega
  have h63' : ¬ (9223372036854775807 < (m : Int)) := by omega
  have hfit := growslice_fits (need := m) (old := 0) hm0 hbytes
  have h48' : ¬ (281474976710656 < Builtin.nextslicecap m 0 * i.bytes) := by omega
  have hmz : ¬ (m * i.size = 0) := Nat.mul_ne_zero (by omega) hsn
  obtain ⟨news, hnews⟩ : ∃ news, news = (Builtin.zeroCells z.cells m).toList := ⟨_, rfl⟩
  have hna : Builtin.zeroCells z.cells m = news.toArray := by rw [hnews]
  have hl : news.length = m * i.size := by rw [hnews, Array.length_toList, size_zeroCells, hzs]
  refine ⟨grownCap w m 0 e, w.drew.alloc (.cells (news.toArray ++ Builtin.zeroCells z.cells (grownCap w m 0 e - m)) e), ?_, ?_, ?_⟩
  · simp [Builtin.append_, run_underlying ht, run_underlying hti, sizeOf, typeInfo, zeroValue, hi, hz, asInt, asIntOf, hw, hneg, hbig, hn, h63', h48', Question.forced, newRow, grownCap, hmz, hna, Builtin.firstCells]
  · rw [← hnews]
    refine ⟨hl, .inr ⟨w.heap.size, _, _, rfl, Nat.zero_le _, heap_alloc_new w.drew _, grownCap_ge w m 0 e, grownCap_le_maxLen w m 0 e h63, ?_, ?_⟩⟩
    · have hge := grownCap_ge w m 0 e
      simp only [Array.size_append, List.size_toArray, size_zeroCells, hzs, hl, ← Nat.add_mul]
      congr 1
      omega
    · simp only [Array.toList_append]
      rw [← hl]
      exact List.take_left
  · exact ⟨rfl, rfl, rfl, by simp, fun k hk _ => heap_alloc_old w.drew _ hk⟩
theorem e_appendZ0 {s x : Operand} {t ti e : TypeId} {i : TypeInfo} {z : Value} {k kx : IntKind} {m sz bytes : Nat} {K : Value → List Res → Prop} {d : Option Tmp} {ty : TypeId} {pos : String} {af : Array Edge} {g : Option (Nat × Bool)}
    (ht : P.underlying t = some (.slice e)) (hti : P.underlying ti = some (.int k)) (hi : P.info? e = some i) (hz : i.zero = some z) (hsize : i.size = sz) (hby : i.bytes = bytes) (hzs : z.cells.size = sz) (hsz : 0 < sz) (hb0 : 0 < bytes)
    (hs : ev σ s = .slice none 0 0) (hx : ev σ x = .int kx m) (hm0 : 0 < m) (hb : m * bytes ≤ 140737488355328)
    (hK : ∀ b c, K (.slice (some ⟨b, 0, none⟩) m c) (osl (some ⟨b, 0, none⟩) c m sz e (Builtin.zeroCells z.cells m).toList :: L)) : OpE P w0 D σ L ⟨d, .call { callee := .builtin .append, args := #[s, x], argTypes := #[t, ti] }, ty, pos, af, g⟩ K :=
  .mk (by simp) fun w hw => by
    obtain ⟨c, w', hr, h2, h3⟩ := run_appendZ0 (P := P) w t ti ty e i z sz bytes ht hti hi hz hsize hby hzs hsz hb0 kx m hm0 hb
    have hw0 := SH.nil0 (sz := sz) (t := e) w hw
    refine ⟨_, w', _, ?_, hw0.grow h2 (by simpa [Value.ownBlock] using h3) (.inr rfl), hK _ c⟩
    simp [execOp, resolve, invoke, builtin, hs, hx, hr]
theorem SH.cut0 {a : Option Addr} {c m sz : Nat} {t : TypeId} {l : List Value} (hp : Pick L (osl a c m sz t l) M) (ha : a ≠ none) (w : World) (h : SH w0 D L w) : SH w0 D (osl a c 0 sz t [] :: M) w :=
  SH.weaken (h.pick hp) ⟨fun b hb => by
    cases a with
    | none => exact absurd rfl ha
    | some p => simpa [osl, Value.ownBlock] using hb, fun w' hw' => by
    refine ⟨by simp, ?_⟩
    rcases hw'.2 with ⟨hv, -⟩ | ⟨g, cap', cur, hv, hb, hg, hle, hm, hs, -⟩
    · injection hv with e1; exact absurd e1 ha
    · injection hv with e1 e2 e3
      subst e1; subst e3
      exact .inr ⟨g, c, cur, rfl, hb, hg, Nat.zero_le _, hm, hs, by simp⟩⟩
@[reducible] def slV {α : Type} (l : List α) (x : Option Addr × Nat) : Value := .slice x.1 l.length x.2
@[reducible] def slR {α : Type} (enc : α → List Value) (sz : Nat) (t : TypeId) (l : List α) (x : Option Addr × Nat) : Res := osl x.1 x.2 l.length sz t (l.flatMap enc)
def MakesS {α : Type} (P : Program) (f : Nat) (args : Array Value) (w : World) (D : List Nat) (enc : α → List Value) (sz : Nat) (t : TypeId) (l : List α) : Prop :=
  Calls P f args w fun e w' => ∃ x : Option Addr × Nat, e = .returned (slV l x) ∧ SH w D [slR enc sz t l x] w' ∧ True
theorem MakesS.cap {α : Type} {f : Nat} {args : Array Value} {w : World} {enc : α → List Value} {sz : Nat} {t : TypeId} {l : List α} (h : MakesS P f args w D enc sz t l) :
    Calls P f args w fun e w' => ∃ x : Option Addr × Nat, e = .returned (slV l x) ∧ SH w D [slR enc sz t l x] w' ∧ l.length ≤ x.2 :=
  h.mono fun e w' ⟨x, h1, h2, _⟩ => ⟨x, h1, h2, osl_cap (h2.ok _ List.mem_cons_self)⟩
structure SlH where
  a : Option Addr
  n : Nat
  c : Nat
  deriving Inhabited
@[reducible] def slhV (h : SlH) : List Value := [.slice h.a h.n h.c]
theorem slhV_len (h : SlH) : (slhV h).length = 1 := rfl
theorem slhV_one (h : SlH) : (slhV h).all Value.oneCell' = true := rfl
theorem flat_succ {α : Type} (ls : List (List α)) (k : Nat) (h : k < ls.length) : (ls.take k).flatten ++ ls.getD k [] = (ls.take (k + 1)).flatten := by
  rw [List.take_succ_eq_append_getElem h, List.flatten_append]
  simp [List.getD_eq_getElem?_getD, h]
theorem flat_le {α : Type} (ls : List (List α)) (k : Nat) : (ls.take k).flatten.length ≤ ls.flatten.length := by
  conv => rhs; rw [← List.take_append_drop k ls]
  rw [List.flatten_append, List.length_append]; omega
theorem rdsT {α : Type} {enc : α → List Value} {z : Nat} {a : Option Addr} {l : List α} (hz : ∀ x, (enc x).length = z) (k : Nat) (h : ∀ w, SH w0 D L w → Rds w a (l.flatMap enc)) : ∀ w, SH w0 D L w → Rds w a ((l.take k).flatMap enc) := fun w hs => by
  rw [← fl_take hz]
  exact (h w hs).take _
def Makes (P : Program) (f : Nat) (args : Array Value) (w : World) (D : List Nat) {X : Type} (V : X → Value) (A : X → List Res) (C : X → Prop) : Prop :=
  Calls P f args w fun e w' => ∃ x : X, e = .returned (V x) ∧ SH w D (A x) w' ∧ C x
end
end Go.Proofs.Ytldkjjnjdjfipaa
namespace Go.Proofs.Ytldkjjnjdjfipaa
open Go Go.RowKit
set_option linter.unusedVariables false
set_option linter.unusedSimpArgs false
section
variable {P : Program} {w0 : World} {D : List Nat} {σ : Fr} {L L' M : List Res}
theorem fl_rep {α : Type} {enc : α → List Value} {z : Nat} (hz : ∀ x, (enc x).length = z) (y : α) : ∀ (c i : Nat), i < c * z → ((List.replicate c y).flatMap enc)[i]? = (enc y)[i % z]?
  | 0, i, h => by omega
  | c + 1, i, h => by
    rw [List.replicate_succ, List.flatMap_cons]
    by_cases hi : i < z
    · rw [List.getElem?_append_left (by rw [hz]; exact hi), Nat.mod_eq_of_lt hi]
    · rw [List.getElem?_append_right (by rw [hz]; omega), hz, fl_rep hz y c (i - z) (by rw [Nat.succ_mul] at h; omega)]
      congr 1
      conv => rhs; rw [show i = (i - z) + z by omega, Nat.add_mod_right]
theorem made_rep {α : Type} {enc : α → List Value} {z : Nat} (hz : ∀ x, (enc x).length = z) (hp : 0 < z) (y : α) (c : Nat) : (madeCells (enc y).toArray (c * z)).toList = (List.replicate c y).flatMap enc := by
  apply List.ext_getElem?
  intro i
  by_cases h : i < c * z
  · rw [fl_rep hz y c i h]
    have hm : i % z < (enc y).length := by rw [hz]; exact Nat.mod_lt _ hp
    rw [List.getElem?_eq_getElem hm]
    simp [madeCells, h, hz]
    rw [List.getElem?_eq_getElem hm]
    rfl
  · rw [List.getElem?_eq_none (by simp [size_madeCells]; omega), List.getElem?_eq_none (by rw [fl_len hz, List.length_replicate]; omega)]
theorem e_make {α : Type} {enc : α → List Value} {y0 : α} {t e : TypeId} {i : TypeInfo} {z : Value} {x u : Operand} {kl kc : IntKind} {m c sz bytes : Nat} {K : Value → List Res → Prop} {d : Option Tmp} {ty : TypeId} {pos : String} {af : Array Edge} {g : Option (Nat × Bool)}
    (hlen : ∀ x, (enc x).length = sz) (hsz : 0 < sz) (ht : P.underlying t = some (.slice e)) (hi : P.info? e = some i) (hz : i.zero = some z) (hsize : i.size = sz) (hby : i.bytes = bytes) (hzc : z.cells = (enc y0).toArray)
    (hx : ev σ x = .int kl m) (hu : ev σ u = .int kc c) (hmc : m ≤ c) (hb : bytes * c ≤ 281474976710656) (hcm : c ≤ 9007199254740992)
    (hK : ∀ b, K (.slice (some ⟨b, 0, none⟩) m c) (osl (some ⟨b, 0, none⟩) c c sz e ((List.replicate c y0).flatMap enc) :: L)) : OpE P w0 D σ L ⟨d, .makeSlice t x u, ty, pos, af, g⟩ K := by
  have hlt : ((List.replicate c y0).flatMap enc).length = c * sz := by rw [fl_len hlen, List.length_replicate]
  have hrun : ∀ w, (execOp (ev σ) ⟨d, .makeSlice t x u, ty, pos, af, g⟩).run P w = .ok (.value (.slice (some ⟨w.heap.size, 0, none⟩) m c)) (w.alloc (.cells ((List.replicate c y0).flatMap enc).toArray e (0, 0))) := fun w => by
    have hr := run_make (P := P) w t e i z ht hi hz kl kc m c (by omega) (by omega) (by rw [hby]; rw [← Int.natCast_mul]; omega) (by omega)
    simp only [Int.toNat_natCast, hsize] at hr
    have e1 : madeCells z.cells (c * sz) = ((List.replicate c y0).flatMap enc).toArray := by
      rw [hzc, ← made_rep hlen hsz y0 c]
    rw [e1] at hr
    simp [execOp, hx, hu, hr]
  exact .mk (by simp) fun w hs => ⟨_, _, _, hrun w, SH.celO .h hlt (by simp only [maxLen]; omega) _ (hs.frame0 (SH.new w _)), hK w.heap.size⟩
end
end Go.Proofs.Ytldkjjnjdjfipaa
namespace Go.Proofs.Ytldkjjnjdjfipaa
open Go Go.RowKit
set_option linter.unusedVariables false
set_option linter.unusedSimpArgs false
section
variable {P : Program} {w0 : World} {D : List Nat} {n : Nat} {r : Option Nat} {ds : List Nat} {σ : Fr} {L M : List Res}
theorem SH.self {w : World} (h : SH w0 D L w) : SH w (L.flatMap Res.fp) L w :=
  ⟨rfl, rfl, rfl, Nat.le_refl _, fun _ _ _ => rfl, h.ok, fun p hp b hb => ⟨.inr (List.mem_flatMap.2 ⟨p, hp, hb⟩), (h.own p hp b hb).2⟩, h.disj⟩
theorem SH.put {w : World} {b : Nat} {o o' : Obj} (h : SH w0 D (blk b o :: L) w) : SH w0 D (blk b o' :: L) (w.putObj b o') := by
  have hr := h.own (blk b o) (by simp) b (by simp [blk])
  have hd := List.pairwise_cons.1 h.disj
  have hne : ∀ k, k ≠ b → (w.putObj b o').heap[k]? = w.heap[k]? := fun k hk => World.putObj_heap_other hk
  have hsz : (w.putObj b o').heap.size = w.heap.size := World.putObj_size
  refine ⟨h.os, h.tape, h.output, by rw [hsz]; exact h.size, ?_, ?_, ?_, List.pairwise_cons.2 ⟨fun q hq c hc => hd.1 q hq c hc, hd.2⟩⟩
  · intro k hk hkD
    rw [hne k (fun e => ?_), h.old k hk hkD]
    subst e
    rcases hr.1 with h1 | h1
    · omega
    · exact hkD h1
  · intro p hp0
    rcases List.mem_cons.1 hp0 with rfl | hp
    · exact World.putObj_heap_same hr.2
    · clear hp0
      refine p.loc w _ (fun c hc => hne c (fun e => ?_)) (h.ok p (List.mem_cons_of_mem _ hp))
      subst e
      exact hd.1 p hp c (by simp [blk]) hc
  · intro p hp c hc
    rw [hsz]
    rcases List.mem_cons.1 hp with rfl | hp
    · simp [blk] at hc; subst hc; exact hr
    · exact h.own p (List.mem_cons_of_mem _ hp) c hc
inductive CallV (P : Program) : Value → Array Value → World → (Ending → World → Prop) → Prop
  | f {f : Nat} {cap args : Array Value} {w : World} {R : Ending → World → Prop} (hc : ∀ args w, (callFunc f args).run P w = .ok (.enter f args) w) (h : Calls P f (args ++ cap) w R) : CallV P (.func (.func f) #[] cap) args w R
  | y {l : Nat} {args : Array Value} {w : World} {R : Ending → World → Prop} {g : Nat} {tmps : Array Value} {assign body : Code} (hy : (Instr.yield l args).run P w = .ok (.round l g tmps assign body) w)
      (h : RoundIn (FW none) 0 P l g tmps assign body w R) : CallV P (.func (.yield l) #[] #[]) args w R
def IsYv (yv : Value) : Prop := (∃ f cap, yv = .func (.func f) #[] cap) ∨ ∃ l, yv = .func (.yield l) #[] #[]
def YieldC (P : Program) (wb : World) (Db : List Nat) (yv : Value) (enc : Nat → Array Value) (N : Nat) (I E : Nat → List Res → Prop) : Prop :=
  IsYv yv ∧ ∀ k A, k < N → I k A → ∀ w, SH wb Db A w →
    CallV P yv (enc k) w (fun e w' => ∃ b A', e = .returned (.bool b) ∧ SH w (A.flatMap Res.fp) A' w' ∧ (match b with | true => I (k + 1) A' | false => E k A'))
def Iter (P : Program) (f : Nat) (cap : Array Value) (enc : Nat → Array Value) (N : Nat) (rd : Nat → Prop) (w : World) : Prop :=
  ∀ (yv : Value) (I E : Nat → List Res → Prop) (A : List Res), (∀ b, rd b → b ∉ A.flatMap Res.fp) → I 0 A → SH w (A.flatMap Res.fp) A w → YieldC P w (A.flatMap Res.fp) yv enc N I E →
    Calls P f (#[yv] ++ cap) w (fun e w' => e = .returned (.tuple #[]) ∧ ∃ A', SH w (A.flatMap Res.fp) A' w' ∧ (I N A' ∨ ∃ k, k < N ∧ E k A'))
def updZ (σ : Fr) (ps : Array Nat) (vs : Array Value) : Fr := (ps.toList.zip vs.toList).foldl (fun σ x => upd σ x.1 x.2) σ
theorem FrOK.zipL {ds' : List Nat} : ∀ (l : List (Nat × Value)) (σ : Fr) (t : Array Value), (∀ x ∈ l, Nat.blt x.1 n = true) → FrOK n ds' σ { tmps := t, defers := ds'.map mkD } →
    FrOK n ds' (l.foldl (fun σ x => upd σ x.1 x.2) σ) { tmps := l.foldl (fun t x => t.setIfInBounds x.1 x.2) t, defers := ds'.map mkD }
  | [], _, _, _, h => h
  | (p, v) :: l, σ, t, hl, h => FrOK.zipL l (upd σ p v) (t.setIfInBounds p v) (fun x hx => hl x (List.mem_cons_of_mem _ hx)) (by
      have := h.put (hl (p, v) List.mem_cons_self) v
      exact ⟨rfl, this.size, this.get⟩)
theorem FrOK.zip {a : Act} (h : FrOK n ds σ a) {ps : Array Nat} (vs : Array Value) (hps : ps.all (fun p => Nat.blt p n) = true) :
    FrOK n [] (updZ σ ps vs) { tmps := (ps.zip vs).foldl (fun t (x : Nat × Value) => t.setIfInBounds x.1 x.2) a.tmps, defers := [] } := by
  have h1 := FrOK.zipL (n := n) (ds' := []) (ps.zip vs).toList σ a.tmps (fun x hx => by
    have hx' : x ∈ ps.zip vs := Array.mem_toList_iff.1 hx
    have hm : x.1 ∈ ps := by
      obtain ⟨i, hi, e⟩ := Array.mem_iff_getElem.1 hx'
      rw [Array.getElem_zip] at e
      rw [← e]
      exact Array.getElem_mem _
    exact (Array.all_eq_true_iff_forall_mem.1 hps) x.1 hm) ⟨rfl, h.size, h.get⟩
  rw [← Array.foldl_toList]
  unfold updZ
  rw [← Array.toList_zip]
  exact h1
def asgS (K : Fr → List Res → Prop) : Post
  | .normal, ds, σ, L => ds = [] ∧ K σ L
  | _, _, _, _ => False
def rndS (I : Nat → List Res → Prop) (E : Nat → Exit → List Res → Prop) (k : Nat) : Post
  | .normal, _, _, L => ∃ A', Ent L A' ∧ I (k + 1) A'
  | .exit id, _, _, L => ∃ A', Ent L A' ∧ E k (.exit id) A'
  | .ret, _, _, L => ∃ A', Ent L A' ∧ E k .ret A'
  | .goto _, _, _, _ => False
  | .panic _, _, _, _ => False
  | .outgrown, _, _, _ => False
theorem asg_n {K : Fr → List Res → Prop} (h : K σ L) : asgS K .normal [] σ L := ⟨rfl, h⟩
theorem rnd_n {I : Nat → List Res → Prop} {E : Nat → Exit → List Res → Prop} {k : Nat} (h : ∃ A', Ent L A' ∧ I (k + 1) A') : rndS I E k .normal ds σ L := h
def jcode : Exit → Option Code
  | .exit id => some (.exit id)
  | .ret => some .ret
  | _ => none
theorem wpS_rangeFunc {g : Operand} {ps : Array Tmp} {assign body : Code} {f : Nat} {cap : Array Value} {enc : Nat → Array Value} {N : Nat} {rd : Nat → Prop} {A : List Res} {Q : Post}
    (I : Nat → List Res → Prop) (E : Nat → Exit → List Res → Prop)
    (hg : ev σ g = .func (.func f) #[] cap) (hc : ∀ args w, (callFunc f args).run P w = .ok (.enter f args) w) (hps : ps.all (fun p => Nat.blt p n) = true) (hsz : ∀ k, (enc k).size = ps.size)
    (hE : Ent L (A ++ M)) (hI : I 0 A)
    (hit : ∀ w, SH w0 D (A ++ M) w → Iter P f cap enc N rd w) (hrd : ∀ w, SH w0 D (A ++ M) w → ∀ b, rd b → b < w.heap.size ∧ b ∉ A.flatMap Res.fp)
    (hround : ∀ k A', k < N → I k A' → ∀ w l, SH w0 D (A' ++ M) w →
      wpS P w (A'.flatMap Res.fp) n (some l) assign (asgS fun σ' L' => ∀ w', SH w0 D (L' ++ M) w' → wpS P w' (L'.flatMap Res.fp) n (some l) body (rndS I E k) [] σ' L') [] (updZ σ ps (enc k)) A')
    (hdone : ∀ d A', I N A' → Q .normal (d :: ds) σ (dfr d :: (A' ++ M)))
    (hexit : ∀ d k e A', k < N → E k e A' → Q e (d :: ds) σ (dfr d :: (A' ++ M))) :
    wpS P w0 D n none (.rangeFunc g ps assign body) Q ds σ L := by
  intro a w hf hs
  replace hs := hs.ent hE
  refine wpIn_rangeFunc ?_
  intro fn _
  obtain ⟨rec, hrec⟩ : ∃ rec : LoopState → Option Code → Loop, rec = fun st pe => { state := st, pending := pe, fn, tmps := a.tmps, params := ps, assign, body, defers := w.heap.size } := ⟨_, rfl⟩
  have hpar : ∀ s p, (rec s p).params = ps := fun s p => by rw [hrec]
  obtain ⟨l, hl⟩ : ∃ l, l = w.heap.size + 1 := ⟨_, rfl⟩
  obtain ⟨lr, hlr⟩ : ∃ lr : LoopState → Option Code → Res, lr = fun s p => blk l (.loop (rec s p)) := ⟨_, rfl⟩
  have h1 : SH w0 D (dfr w.heap.size :: (A ++ M)) (w.alloc (.deferred (some []))) := hs.frame0 (SH.new w _)
  have h2 : SH w0 D (lr .ready none :: (dfr w.heap.size :: (A ++ M))) ((w.alloc (.deferred (some []))).alloc (.loop (rec .ready none))) := by
    have := h1.frame0 (SH.new (w.alloc (.deferred (some []))) (.loop (rec .ready none)))
    rw [hlr, hl]
    simpa using this
  obtain ⟨W1, hW1⟩ : ∃ W1, (w.alloc (.deferred (some []))).alloc (.loop (rec .ready none)) = W1 := ⟨_, rfl⟩
  rw [hW1] at h2
  have h3 : SH w0 D ((lr .ready none :: A) ++ (dfr w.heap.size :: M)) W1 := h2.perm (List.Perm.cons _ (List.perm_middle.symm))
  have e1 : (Instr.enterLoop fn a.tmps ps assign body (FW none).round).run P w = .ok (l, [mkD w.heap.size]) W1 := by
    rw [← hW1, hrec, hl]; exact run_enterLoop_outer _ _ _ _ _
  have hg' : a.eval g = .func (.func f) #[] cap := (hf.ev g).trans hg
  refine ⟨l, [mkD w.heap.size], W1, { target := .fn (.func f) cap, args := #[.func (.yield l) #[] #[]] }, W1, f, #[.func (.yield l) #[] #[]] ++ cap, W1, e1, ?_, fun _ _ => trivial, ?_, fun h => by simp [FW] at h, ?_⟩
  · simp only [resolve, hg']
    simp [go_sem]
  · simp [invoke, go_sem, hc]
  refine (callsIn_wide (n := 0 - 1)).2 ?_
  -- what is asked of yield
  have hb : ∀ b, rd b → b ∉ (lr .ready none :: A).flatMap Res.fp := fun b hb hm => by
    have := hrd w hs b hb
    rw [List.flatMap_cons, List.mem_append] at hm
    rcases hm with hm | hm
    · rw [hlr] at hm; simp [blk] at hm; omega
    · exact this.2 hm
  have hbase : ∀ {A2 : List Res} {w2 : World}, SH W1 ((lr .ready none :: A).flatMap Res.fp) A2 w2 → SH w0 D (A2 ++ (dfr w.heap.size :: M)) w2 := fun h => h3.frame h
  have dropD : ∀ {A2 : List Res} {w2 : World}, SH w0 D (A2 ++ (dfr w.heap.size :: M)) w2 → SH w0 D (A2 ++ M) w2 := fun h => (h.perm List.perm_middle).drop
  have hget : ∀ {D2 : List Nat} {wb w2 : World} {s : LoopState} {p : Option Code} {T : List Res}, SH wb D2 (lr s p :: T) w2 → w2.heap[l]? = some (.loop (rec s p)) := fun h => by
    have := h.ok _ List.mem_cons_self
    rw [hlr] at this
    exact this
  have hput : ∀ {D2 : List Nat} {wb w2 : World} {s s' : LoopState} {p p' : Option Code} {T : List Res}, SH wb D2 (lr s p :: T) w2 → SH wb D2 (lr s' p' :: T) (w2.putObj l (.loop (rec s' p'))) := fun h => by
    rw [hlr] at h ⊢
    exact h.put
  have hY : YieldC P W1 ((lr .ready none :: A).flatMap Res.fp) (.func (.yield l) #[] #[]) enc N (fun k L => ∃ A', L = lr .ready none :: A' ∧ I k A')
      (fun k L => ∃ e c A', L = lr .done (some c) :: A' ∧ E k e A' ∧ jcode e = some c) := by
    refine ⟨.inr ⟨l, rfl⟩, ?_⟩
    rintro k A2 hx ⟨A', rfl, hI'⟩ wy hy
    have hy0 := hbase hy
    have hys := hy.self
    have hyl := hget hy
    refine .y (run_yield (P := P) (args := enc k) hyl (by rw [hpar]; exact hsz k)) (roundIn_of_wpIn (F := FW none) trivial ?_)
    have hfr : FrOK n [] (updZ σ ps (enc k)) { tmps := ((rec .ready none).params.zip (enc k)).foldl (fun t (x : Nat × Value) => t.setIfInBounds x.1 x.2) (rec .ready none).tmps, defers := [] } := by
      rw [hrec]; exact hf.zip (enc k) hps
    have has : (rec .ready none).assign = assign := by rw [hrec]
    have hbo : (rec .ready none).body = body := by rw [hrec]
    rw [has, hbo]
    have hsA : SH wy (A'.flatMap Res.fp) A' wy := hys.drop.self
    refine wpIn_mono (hround k A' hx hI' wy l (dropD (SH.drop (p := lr .ready none) hy0)) _ wy hfr hsA) ?_
    intro e a1 wa ⟨ds1, σ1, L1, hf1, hs1, hq1⟩
    cases e <;> try exact hq1.elim
    obtain ⟨rfl, hK⟩ := hq1
    -- the chain at both bases
    have f1 : SH wy ((lr .ready none :: A').flatMap Res.fp) (L1 ++ [lr .ready none]) wa := SH.frame (A := A') ((show SH wy _ ([lr .ready none] ++ A') wy from hys).perm List.perm_append_comm) hs1
    have f2 : SH w0 D (L1 ++ (lr .ready none :: (dfr w.heap.size :: M))) wa := SH.frame (A := A') ((show SH w0 D (lr .ready none :: (A' ++ (dfr w.heap.size :: M))) wy from hy0).perm List.perm_middle.symm) hs1
    have f1' : SH wy ((lr .ready none :: A').flatMap Res.fp) (lr .ready none :: L1) wa := f1.perm List.perm_append_comm
    have f2' : SH w0 D (lr .ready none :: (L1 ++ (dfr w.heap.size :: M))) wa := f2.perm List.perm_middle
    have gl := hget f1'
    refine ⟨_, run_beginRound gl (by rw [hrec]), ?_⟩
    have ebusy : ({ rec .ready none with state := .busy } : Loop) = rec .busy none := by rw [hrec]
    rw [ebusy]
    have b1 := hput (s' := .busy) (p' := none) f1'
    have b2 := hput (s' := .busy) (p' := none) f2'
    have b3 : SH w0 D (L1 ++ M) (wa.putObj l (.loop (rec .busy none))) := dropD b2.drop
    have hsB : SH (wa.putObj l (.loop (rec .busy none))) (L1.flatMap Res.fp) L1 (wa.putObj l (.loop (rec .busy none))) := b1.drop.self
    refine wpIn_mono (hK _ b3 a1 _ hf1 hsB) ?_
    have fin : ∀ (jump : Option Code) (A3 : List Res) (wc : World), SH (wa.putObj l (.loop (rec .busy none))) (L1.flatMap Res.fp) A3 wc →
        (Instr.endRound l jump).run P wc = .ok (.bool jump.isNone) (wc.putObj l (.loop (rec (if jump.isNone then .ready else .done) jump))) ∧
        SH wy ((lr .ready none :: A').flatMap Res.fp) (lr (if jump.isNone then .ready else .done) jump :: A3) (wc.putObj l (.loop (rec (if jump.isNone then .ready else .done) jump))) := fun jump A3 wc h => by
      have c1 : SH wy ((lr .ready none :: A').flatMap Res.fp) (A3 ++ [lr .busy none]) wc := SH.frame (A := L1) (b1.perm (List.perm_append_comm (l₁ := [lr .busy none]))) h
      have c2 : SH wy ((lr .ready none :: A').flatMap Res.fp) (lr .busy none :: A3) wc := c1.perm List.perm_append_comm
      have := run_endRound (P := P) jump (hget c2)
      have ee : ({ rec .busy none with state := if jump.isNone then .ready else .done, pending := jump } : Loop) = rec (if jump.isNone then .ready else .done) jump := by rw [hrec]
      rw [ee] at this
      exact ⟨this, hput c2⟩
    intro e2 a2 wc ⟨ds2, σ2, L2, hf2, hs2, hq2⟩
    cases e2 with
    | normal =>
      obtain ⟨A3, hent, hi⟩ := hq2
      obtain ⟨g1, g2⟩ := fin none A3 wc (hs2.ent hent)
      exact ⟨_, _, g1, true, _, rfl, g2, A3, rfl, hi⟩
    | ret =>
      obtain ⟨A3, hent, hi⟩ := hq2
      obtain ⟨g1, g2⟩ := fin (some .ret) A3 wc (hs2.ent hent)
      exact ⟨_, _, g1, false, _, rfl, g2, .ret, .ret, A3, rfl, hi, rfl⟩
    | exit id =>
      obtain ⟨A3, hent, hi⟩ := hq2
      obtain ⟨g1, g2⟩ := fin (some (.exit id)) A3 wc (hs2.ent hent)
      exact ⟨_, _, g1, false, _, rfl, g2, .exit id, .exit id, A3, rfl, hi, rfl⟩
    | goto t => exact hq2.elim
    | panic c => exact hq2.elim
    | outgrown => exact hq2.elim
  have hcall := hit W1 (h2.drop.drop) (.func (.yield l) #[] #[]) _ _ (lr .ready none :: A) hb ⟨A, rfl, hI⟩ (SH.dropAll _ (h3.perm List.perm_append_comm)).self hY
  refine hcall.mono ?_
  rintro e w3 ⟨rfl, A3, hs3, hor⟩
  have hact : FrOK n (w.heap.size :: ds) σ { a with defers := [mkD w.heap.size] ++ a.defers } := ⟨by simp [hf.defers], hf.size, hf.get⟩
  rcases hor with ⟨A', rfl, hi⟩ | ⟨k, hk, e, c, A', rfl, hE', hj⟩
  · have c1 : SH w0 D (lr .ready none :: (A' ++ (dfr w.heap.size :: M))) w3 := hbase hs3
    have c2 := hput (s' := .exhausted) (p' := none) c1
    have hrun := run_endLoop (P := P) (hget c1) (by rw [hrec]; simp)
    have ee : ({ rec .ready none with state := .exhausted } : Loop) = rec .exhausted none := by rw [hrec]
    have ep : (rec .ready none).pending = none := by rw [hrec]
    rw [ee, ep] at hrun
    refine ⟨_, _, hrun, ?_⟩
    exact ⟨_, _, _, hact, c2.drop.perm List.perm_middle, hdone w.heap.size A' hi⟩
  · have c1 : SH w0 D (lr .done (some c) :: (A' ++ (dfr w.heap.size :: M))) w3 := hbase hs3
    have c2 := hput (s' := .exhausted) (p' := some c) c1
    have hrun := run_endLoop (P := P) (hget c1) (by rw [hrec]; simp)
    have ee : ({ rec .done (some c) with state := .exhausted } : Loop) = rec .exhausted (some c) := by rw [hrec]
    have ep : (rec .done (some c)).pending = some c := by rw [hrec]
    rw [ee, ep] at hrun
    refine ⟨_, _, hrun, ?_⟩
    have hq : toQ w0 D n Q e { a with defers := [mkD w.heap.size] ++ a.defers } (w3.putObj l (.loop (rec .exhausted (some c)))) := ⟨_, _, _, hact, c2.drop.perm List.perm_middle, hexit w.heap.size k e A' hk hE'⟩
    cases e <;> simp only [jcode] at hj <;> try cases hj
    · exact wpIn_exit hq
    · exact wpIn_ret hq
theorem run_callV {z : Operand} {as : Array Operand} {ts : Array TypeId} {args : Array Value} {yv : Value} {d : Option Tmp} {ty : TypeId} {pos : String} {af : Array Edge} {g : Option (Nat × Bool)} {w : World} {R : Ending → World → Prop} {K : Value → List Res → Prop}
    (hz : ev σ z = yv) (ha : as.map (ev σ) = args) (hcv : CallV P yv args w R) (hR : ∀ e w', R e w' → ∃ v L', e = .returned v ∧ SH w0 D L' w' ∧ K v L') :
    (∃ f as', (execOp (ev σ) ⟨d, .call { callee := .value z, args := as, argTypes := ts }, ty, pos, af, g⟩).run P w = .ok (.enter f as') w ∧ Calls P f as' w (fun e w' => ∃ v L', e = .returned v ∧ SH w0 D L' w' ∧ K v L')) ∨
    (∃ l f tmps assign body, (execOp (ev σ) ⟨d, .call { callee := .value z, args := as, argTypes := ts }, ty, pos, af, g⟩).run P w = .ok (.round l f tmps assign body) w ∧ RoundIn (FW none) 0 P l f tmps assign body w (fun e w' => ∃ v L', e = .returned v ∧ SH w0 D L' w' ∧ K v L')) := by
  subst ha
  cases hcv with
  | @f f cap _ _ _ hc h =>
    refine .inl ⟨f, as.map (ev σ) ++ cap, ?_, h.mono hR⟩
    simp [execOp, resolve, Deferred.ofValue, invoke, hz, hc]
  | @y l _ _ _ g' tmps assign body hy h =>
    refine .inr ⟨l, g', tmps, assign, body, ?_, h.mono hR⟩
    simp [execOp, resolve, Deferred.ofValue, invoke, hz, hy]
theorem e_yield {z : Operand} {as : Array Operand} {ts : Array TypeId} {enc : Nat → Array Value} {N k : Nat} {yv : Value} {own A : List Res} {I E : Nat → List Res → Prop} {K : Value → List Res → Prop} {d : Option Tmp} {ty : TypeId} {pos : String} {af : Array Edge} {g : Option (Nat × Bool)}
    (hY : YieldC P w0 D yv enc N I E) (hz : ev σ z = yv) (ha : as.map (ev σ) = enc k) (hk : k < N) (hI : I k A)
    (hK1 : ∀ A', I (k + 1) A' → K (.bool true) (own ++ A')) (hK2 : ∀ A', E k A' → K (.bool false) (own ++ A')) :
    OpE P w0 D σ (own ++ A) ⟨d, .call { callee := .value z, args := as, argTypes := ts }, ty, pos, af, g⟩ K := ⟨by simp, fun w hw => by
  have hs : SH w0 D (A ++ own) w := hw.perm List.perm_append_comm
  have hsA : SH w0 D A w := SH.dropAll own hw
  have := run_callV (w0 := w0) (D := D) (K := K) (ts := ts) (d := d) (ty := ty) (pos := pos) (af := af) (g := g) hz ha (hY.2 k A hk hI w hsA) (fun e w' ⟨b, A', he, h2, h3⟩ => by
    refine ⟨.bool b, own ++ A', he, (hs.frame h2).perm List.perm_append_comm, ?_⟩
    cases b with
    | true => exact hK1 A' h3
    | false => exact hK2 A' h3)
  exact .inr (.inr this)⟩
theorem rdIn {w : World} {A' : List Res} {a : Option Addr} {l : List Value} (h : SH w0 D (A' ++ M) w) (hr : Rds w a l) (hb : 0 < l.length → aB a < w0.heap.size ∧ aB a ∉ D) (L' : List Res) : ∀ w', SH w (A'.flatMap Res.fp) L' w' → Rds w' a l := fun w' hs => by
  by_cases hl : 0 < l.length
  · refine oldRD hr (fun hm => ?_) w' hs
    obtain ⟨p, hp, hb'⟩ := List.mem_flatMap.1 hm
    have h1 := hb hl
    rcases (h.own p (List.mem_append_left _ hp) _ hb').1 with h2 | h2
    · omega
    · exact h1.2 h2
  · obtain rfl : l = [] := List.eq_nil_of_length_eq_zero (by omega)
    exact Rds.nil _ _
theorem rdBlk {w : World} {a : Option Addr} {l : List Value} (h : Rds w a l) (hl : 0 < l.length) : aB a < w.heap.size := World.block_lt_of_cell? w ⟨aB a, aO a + 0, none⟩ (h 0 l[0] (by simp [hl])).2
def IterAt (P : Program) (f : Nat) (cap : Array Value) (enc : Nat → Array Value) (N : Nat) (rd : Nat → Prop) (w : World) : Prop :=
  (∀ w', SH w [] [] w' → Iter P f cap enc N rd w') ∧ ∀ b, rd b → b < w.heap.size
theorem SH.toNil {w : World} (h : SH w0 [] L w) : SH w0 [] [] w := SH.dropAll (L := []) L (by rw [List.append_nil]; exact h)
theorem SH.trans0 {w1 w2 : World} (h : SH w0 [] [] w1) (h2 : SH w1 [] [] w2) : SH w0 [] [] w2 := h.frame0 h2
theorem IterAt.mono {f : Nat} {cap : Array Value} {enc : Nat → Array Value} {N : Nat} {rd : Nat → Prop} {w : World} (h : IterAt P f cap enc N rd w0) (hs : SH w0 [] L w) : IterAt P f cap enc N rd w :=
  ⟨fun w' hs' => h.1 w' (hs.toNil.trans0 hs'), fun b hb => Nat.lt_of_lt_of_le (h.2 b hb) hs.size⟩
theorem IterAt.it {f : Nat} {cap : Array Value} {enc : Nat → Array Value} {N : Nat} {rd : Nat → Prop} {w : World} (h : IterAt P f cap enc N rd w) : Iter P f cap enc N rd w := h.1 w (SH.start w)
theorem apOld {w : World} {A : List Res} (h : SH w0 D (A ++ M) w) {b : Nat} (hb : b < w0.heap.size) (hD : b ∉ D) : b < w.heap.size ∧ b ∉ A.flatMap Res.fp :=
  ⟨Nat.lt_of_lt_of_le hb h.size, fun hm => by
    obtain ⟨p, hp, hb'⟩ := List.mem_flatMap.1 hm
    rcases (h.own p (List.mem_append_left _ hp) _ hb').1 with h2 | h2
    · omega
    · exact hD h2⟩
theorem apM {w : World} {A M' : List Res} {q : Res} (h : SH w0 D (A ++ M) w) (hp : Pick M q M') {b : Nat} (hb : b ∈ q.fp) : b < w.heap.size ∧ b ∉ A.flatMap Res.fp := by
  have hq : q ∈ M := hp.perm.mem_iff.2 List.mem_cons_self
  refine ⟨(h.own q (List.mem_append_right _ hq) b hb).2, fun hm => ?_⟩
  obtain ⟨p, hp', hb'⟩ := List.mem_flatMap.1 hm
  exact (List.pairwise_append.1 h.disj).2.2 p hp' q hq b hb' hb
theorem osl_blk {a : Option Addr} {cap m sz : Nat} {t : TypeId} {l : List Value} {w : World} (h : (osl a cap m sz t l).ok w) (hl : 0 < l.length) : aB a ∈ (osl a cap m sz t l).fp := by
  rcases h.2 with ⟨hv, hn⟩ | ⟨g, cap', cur, hv, hb, hg, hle, hm, hs, ht⟩
  · have := h.1; rw [hn, Nat.zero_mul] at this; omega
  · injection hv with e1 e2 e3
    subst e1
    simp [osl, Value.ownBlock, aB]
theorem cell_old {w : World} {b o : Nat} {v : Value} (h : w0.cell? ⟨b, o, none⟩ = some v) (hs : SH w0 [] [] w) : w.cell? ⟨b, o, none⟩ = some v := old1 h (by simp) w hs
theorem cell_lt {w : World} {b o : Nat} {v : Value} (h : w.cell? ⟨b, o, none⟩ = some v) : b < w.heap.size := World.block_lt_of_cell? w ⟨b, o, none⟩ h
theorem oldRD' {a : Option Addr} {l : List Value} (h : Rds w0 a l) (hD : 0 < l.length → aB a ∉ D) : ∀ w, SH w0 D L w → Rds w a l := fun w hs => by
  by_cases hl : 0 < l.length
  · exact oldRD h (hD hl) w hs
  · obtain rfl : l = [] := List.eq_nil_of_length_eq_zero (by omega)
    exact Rds.nil _ _
theorem fl_pos {α : Type} {enc : α → List Value} {z : Nat} {l : List α} (hz : ∀ x, (enc x).length = z) (h0 : 0 < z) (h : 0 < l.length) : 0 < (l.flatMap enc).length := by rw [fl_len hz]; exact Nat.mul_pos h h0
theorem fl_pos' {α : Type} {enc : α → List Value} {z : Nat} {l : List α} (hz : ∀ x, (enc x).length = z) (h : 0 < (l.flatMap enc).length) : 0 < l.length := by
  rw [fl_len hz] at h
  exact Nat.pos_of_ne_zero fun e => by rw [e, Nat.zero_mul] at h; omega
def u64of (x : Int) : Nat := (x % 18446744073709551616).toNat
theorem u64of_wrap (x : Int) : IntKind.u64.wrap x = ((u64of x : Nat) : Int) := by
  unfold u64of
  rw [Int.toNat_of_nonneg (Int.emod_nonneg x (by decide))]
  simp [IntKind.wrap, IntKind.signed, IntKind.bits]
theorem wpS_anyL {Q : Post} {id : Nat} {ops : Array Oper} (L0 : List Res) (nk : List Nat) (hm : P.follows .mixedOrders = true) (h : anyS P w0 D n ops nk L0 (fun σ' L' => Q .normal ds σ' L') ops.size (Array.replicate ops.size false) σ L) :
    wpS P w0 D n r (.region id ops true) Q ds σ L :=
  fun a w hf hs => wpIn_region_any hm (anyS_sound (fun a w hh => toN_Q _ _ _ hh) _ _ _ _ a _ hf hs.drew h)
end
end Go.Proofs.Ytldkjjnjdjfipaa
namespace Go.Proofs.Ytldkjjnjdjfipaa
open Go Go.RowKit
set_option linter.unusedVariables false
set_option linter.unusedSimpArgs false
section
variable {α : Type}
theorem gsame_all [DecidableEq α] {na nb i : Nat} {x y : List α} (hna : x.length = na) (hnb : y.length = nb) (h : na = nb) (hi : na ≤ i) (e : x.take i = y.take i) : decide (x = y) = true := by
  rw [List.take_of_length_le (by omega), List.take_of_length_le (by omega)] at e
  exact decide_eq_true e
theorem gsame_not [DecidableEq α] [Inhabited α] {i : Nat} {x y : List α} (h : ¬ x.getD i default = y.getD i default) : decide (x = y) = false := decide_eq_false fun e => h (by rw [e])
theorem gsame_step [Inhabited α] {i : Nat} {x y : List α} (h1 : i < x.length) (h2 : i < y.length) (e : x.take i = y.take i) (h : x.getD i default = y.getD i default) : x.take (i + 1) = y.take (i + 1) := by
  rw [List.take_succ_eq_append_getElem h1, List.take_succ_eq_append_getElem h2, e]
  simp [List.getD_eq_getElem?_getD, h1, h2] at h
  rw [h]
end
section
variable {α : Type}
end
section
variable {P : Program} {w0 : World} {D : List Nat} {σ : Fr} {L M : List Res}
end
theorem Ent.skip {L N : List Res} (x : Res) (h : Ent L N) : Ent (x :: L) N := by
  induction h with
  | nil => exact .nil
  | w hp hle h ih => exact .w (.t hp) hle ih
end Go.Proofs.Ytldkjjnjdjfipaa
namespace Go.Proofs.Ytldkjjnjdjfipaa
open Go Go.RowKit
set_option linter.unusedVariables false
set_option linter.unusedSimpArgs false
section
variable {P : Program} {w0 : World} {D : List Nat} {σ : Fr} {L M : List Res}
theorem y_sliceLHM {t : TypeId} {x y u v : Operand} {a : Option Addr} {m c : Nat} {k k2 k3 : IntKind} {i j q : Int} {e : TypeId} {l' h' m' : Nat} {z : Nat} (hx : ev σ x = .slice a m c) (hy : ev σ y = .int k i) (hu : ev σ u = .int k2 j) (hv : ev σ v = .int k3 q) (ht : P.underlying t = some (.slice e)) (hz : ∀ w, (sizeOf e).run P w = .ok z w)
    (h0 : 0 ≤ i) (h1 : i ≤ j) (h2 : j ≤ q) (h3 : q ≤ c) (hl : i.toNat = l') (hh : j.toNat = h') (hm : q.toNat = m') : OpR P w0 D σ L (.slice t x (some y) (some u) (some v)) (.slice (subA a m' l' z) (h' - l') (m' - l')) :=
  y_slice fun w => by
    have e1 : (i.toNat : Int) = i := Int.toNat_of_nonneg h0
    have e2 : (j.toNat : Int) = j := Int.toNat_of_nonneg (by omega)
    have e3 : (q.toNat : Int) = q := Int.toNat_of_nonneg (by omega)
    subst hl; subst hh; subst hm
    simp [hx, hy, hu, hv, Instr.sliceAt, Instr.slice, run_underlying ht, Instr.sliceBounds, Instr.sliceBound, asIntOf, hz, h0, h1, h2, h3, subA, (by omega : 0 ≤ j), (by omega : 0 ≤ q), e2, e3]
theorem rdsChunk {α : Type} {enc : α → List Value} {z : Nat} {a : Option Addr} {l : List α} {lo q : Nat} (hz : ∀ x, (enc x).length = z) (h : ∀ w, SH w0 D L w → Rds w a (l.flatMap enc)) : ∀ w, SH w0 D L w → Rds w (subA a (lo + q) lo z) (((l.drop lo).take q).flatMap enc) := fun w hs => by
  have h1 := (h w hs).sub (cap := lo + q) (lo := lo) (hi := lo + q) (sz := z) (Nat.le_refl _)
  rw [Nat.add_sub_cancel_left, fl_drop hz, fl_take hz] at h1
  exact h1
theorem chunk_lt {z i m : Nat} (h : z * i < z * m) : i < m := Nat.lt_of_mul_lt_mul_left h
theorem chunk_ge {z i m : Nat} (hz : 1 ≤ z) (h : z * m ≤ z * i) : m ≤ i := Nat.le_of_mul_le_mul_left h hz
theorem chunk_len {z k m n : Nat} (hk : k < m) (hn : n = z * m) : min z (n - z * k) = z := by
  have := Nat.mul_le_mul_left z (show k + 1 ≤ m by omega)
  rw [Nat.mul_succ] at this
  omega
end
end Go.Proofs.Ytldkjjnjdjfipaa
namespace Go.Proofs.Ytldkjjnjdjfipaa
open Go Go.RowKit
set_option linter.unusedVariables false
set_option linter.unusedSimpArgs false
theorem before_iff (a b : Rec) : before a b = true ↔ a.dead = false ∧ (b.dead = true ∨ a.key.toInt < b.key.toInt ∨ a.key.toInt = b.key.toInt ∧ a.seq.toInt < b.seq.toInt) := by
  unfold before
  simp [Int64.lt_iff_toInt_lt, ← Int64.toInt_inj]
  cases a.dead <;> cases b.dead <;> simp
theorem ahead_iff (a b : Rec) : ahead a b = true ↔ a.dead = false ∧ (b.dead = true ∨ a.key.toInt < b.key.toInt) := by
  unfold ahead
  simp [Int64.lt_iff_toInt_lt]
end Go.Proofs.Ytldkjjnjdjfipaa
namespace Go.Proofs.Ytldkjjnjdjfipaa.Bit
set_option linter.unusedVariables false
set_option linter.unusedSimpArgs false
def win (S x y q : Nat) : Nat := min y (q + S) - max x q
def frm (S x y : Nat) (c : Bool) (q : Nat) : Nat := if c then S - win S x y q else win S x y q
def cnt (N x y : Nat) (c : Bool) : Nat := if c then N - (y - x) else y - x
def Form (S n : Nat) (f : Nat → Nat) (L : Nat) : Prop := ∃ x y c, x ≤ y ∧ y ≤ n * S ∧ L = cnt (n * S) x y c ∧ ∀ i, i < n → f i = frm S x y c (i * S)
def SrtU (S n : Nat) (f : Nat → Nat) (L : Nat) : Prop := L ≤ n * S ∧ ∀ i, i < n → f i = min S (L - i * S)
def SrtD (S n : Nat) (f : Nat → Nat) (L : Nat) : Prop := L ≤ n * S ∧ ∀ i, i < n → f i = min S (L - (n - 1 - i) * S)
theorem blk_le {i h S : Nat} (hi : i < h) : i * S + S ≤ h * S := by
  have := Nat.mul_le_mul_right S (show i + 1 ≤ h by omega)
  rw [Nat.succ_mul] at this; exact this
def HalfOK (S H x y : Nat) (x1 y1 : Nat) (c1 : Bool) (x2 y2 : Nat) (c2 : Bool) : Prop :=
  x1 ≤ y1 ∧ y1 ≤ H ∧ min (y - x) H = cnt H x1 y1 c1 ∧ x2 ≤ y2 ∧ y2 ≤ H ∧ (y - x) - H = cnt H x2 y2 c2 ∧
  ∀ q, q + S ≤ H → min S (win S x y q + win S x y (H + q)) = frm S x1 y1 c1 q ∧ win S x y q + win S x y (H + q) - S = frm S x2 y2 c2 q
theorem half1 {S H x y : Nat} (hxy : x ≤ y) (h1 : y ≤ H) : HalfOK S H x y x y false 0 0 false := by
  refine ⟨hxy, h1, ?_, Nat.le_refl _, Nat.zero_le _, ?_, fun q hq => ⟨?_, ?_⟩⟩ <;> simp only [cnt, frm, win, Bool.false_eq_true, if_false] <;> omega
theorem half2 {S H x y : Nat} (hxy : x ≤ y) (hy : y ≤ 2 * H) (h3 : H ≤ x) : HalfOK S H x y (x - H) (y - H) false 0 0 false := by
  refine ⟨by omega, by omega, ?_, Nat.le_refl _, Nat.zero_le _, ?_, fun q hq => ⟨?_, ?_⟩⟩ <;> simp only [cnt, frm, win, Bool.false_eq_true, if_false] <;> omega
theorem half3 {S H x y : Nat} (hy : y ≤ 2 * H) (h1 : H < y) (h3 : x < H) (h4 : y - x ≤ H) : HalfOK S H x y (y - H) x true 0 0 false := by
  refine ⟨by omega, by omega, ?_, Nat.le_refl _, Nat.zero_le _, ?_, fun q hq => ⟨?_, ?_⟩⟩ <;> simp only [cnt, frm, win, Bool.false_eq_true, if_false, if_true] <;> omega
theorem half4 {S H x y : Nat} (hy : y ≤ 2 * H) (h1 : H < y) (h3 : x < H) (h4 : H < y - x) : HalfOK S H x y 0 H false x (y - H) false := by
  refine ⟨by omega, by omega, ?_, by omega, by omega, ?_, fun q hq => ⟨?_, ?_⟩⟩ <;> simp only [cnt, frm, win, Bool.false_eq_true, if_false, if_true] <;> omega
theorem halfs {S H x y : Nat} (hxy : x ≤ y) (hy : y ≤ 2 * H) : ∃ x1 y1 c1 x2 y2 c2, HalfOK S H x y x1 y1 c1 x2 y2 c2 := by
  by_cases h1 : y ≤ H
  · exact ⟨_, _, _, _, _, _, half1 hxy h1⟩
  · by_cases h3 : H ≤ x
    · exact ⟨_, _, _, _, _, _, half2 hxy hy h3⟩
    · by_cases h4 : y - x ≤ H
      · exact ⟨_, _, _, _, _, _, half3 hy (by omega) (by omega) h4⟩
      · exact ⟨_, _, _, _, _, _, half4 hy (by omega) (by omega) (by omega)⟩
theorem win_le (S x y q : Nat) : win S x y q ≤ S := by unfold win; omega
theorem frm_not (S x y : Nat) (c : Bool) (q : Nat) : frm S x y (!c) q = S - frm S x y c q := by
  have := win_le S x y q
  cases c <;> simp [frm] <;> omega
theorem cnt_not (N x y : Nat) (c : Bool) (h : y ≤ N) : cnt N x y (!c) = N - cnt N x y c := by
  cases c <;> simp [cnt] <;> omega
theorem half {S h L : Nat} {f lo hi : Nat → Nat} (hf : Form S (2 * h) f L) (hlo : ∀ i, i < h → lo i = min S (f i + f (h + i))) (hhi : ∀ i, i < h → hi i = f i + f (h + i) - S) :
    Form S h lo (min L (h * S)) ∧ Form S h hi (L - h * S) := by
  obtain ⟨x, y, c, hxy, hy, hL, hfi⟩ := hf
  have h2 : 2 * h * S = 2 * (h * S) := Nat.mul_assoc _ _ _
  rw [h2] at hy hL
  obtain ⟨x1, y1, c1, x2, y2, c2, a1, a2, a3, b1, b2, b3, hq⟩ := halfs (S := S) hxy hy
  have key : ∀ i, i < h → i * S + S ≤ h * S ∧ f i = frm S x y c (i * S) ∧ f (h + i) = frm S x y c (h * S + i * S) := fun i hi => by
    have e1 := hfi i (by omega)
    have e2 := hfi (h + i) (by omega)
    rw [Nat.add_mul] at e2
    exact ⟨blk_le hi, e1, e2⟩
  cases c with
  | false =>
    refine ⟨⟨x1, y1, c1, a1, a2, ?_, fun i hi' => ?_⟩, ⟨x2, y2, c2, b1, b2, ?_, fun i hi' => ?_⟩⟩
    · rw [← a3, hL]; rfl
    · obtain ⟨k1, k2, k3⟩ := key i hi'
      rw [hlo i hi', k2, k3, ← (hq _ k1).1]; rfl
    · rw [← b3, hL]; rfl
    · obtain ⟨k1, k2, k3⟩ := key i hi'
      rw [hhi i hi', k2, k3, ← (hq _ k1).2]; rfl
  | true =>
    have hL' : L = 2 * (h * S) - (y - x) := hL
    have e : ∀ q, frm S x y true q = S - win S x y q := fun q => rfl
    refine ⟨⟨x2, y2, !c2, b1, b2, ?_, fun i hi' => ?_⟩, ⟨x1, y1, !c1, a1, a2, ?_, fun i hi' => ?_⟩⟩
    · rw [cnt_not _ _ _ _ b2, ← b3, hL']; omega
    · obtain ⟨k1, k2, k3⟩ := key i hi'
      have w1 := win_le S x y (i * S)
      have w2 := win_le S x y (h * S + i * S)
      rw [hlo i hi', k2, k3, frm_not, ← (hq _ k1).2, e, e]; omega
    · rw [cnt_not _ _ _ _ a2, ← a3, hL']; omega
    · obtain ⟨k1, k2, k3⟩ := key i hi'
      have w1 := win_le S x y (i * S)
      have w2 := win_le S x y (h * S + i * S)
      rw [hhi i hi', k2, k3, frm_not, ← (hq _ k1).1, e, e]; omega
theorem form_one {S L : Nat} {f : Nat → Nat} (h : Form S 1 f L) : f 0 = L ∧ L ≤ S := by
  obtain ⟨x, y, c, hxy, hy, hL, hf⟩ := h
  have := hf 0 (by omega)
  rw [Nat.one_mul] at hy hL
  rw [Nat.zero_mul] at this
  cases c <;> simp only [cnt, frm, win, Bool.false_eq_true, if_false, if_true] at * <;> omega
theorem srtU_join {S h L : Nat} {f : Nat → Nat} (h1 : SrtU S h f (min L (h * S))) (h2 : SrtU S h (fun i => f (h + i)) (L - h * S)) : SrtU S (2 * h) f L := by
  have e : 2 * h * S = 2 * (h * S) := Nat.mul_assoc _ _ _
  refine ⟨by have := h2.1; rw [e]; omega, fun i hi => ?_⟩
  by_cases hh : i < h
  · rw [h1.2 i hh]; have := blk_le (S := S) hh; omega
  · have := h2.2 (i - h) (by omega)
    simp only [show h + (i - h) = i by omega] at this
    rw [this]
    have e2 : i * S = h * S + (i - h) * S := by rw [← Nat.add_mul]; congr 1; omega
    rw [e2]; omega
theorem srtD_join {S h L : Nat} {f : Nat → Nat} (h1 : SrtD S h f (L - h * S)) (h2 : SrtD S h (fun i => f (h + i)) (min L (h * S))) : SrtD S (2 * h) f L := by
  have e : 2 * h * S = 2 * (h * S) := Nat.mul_assoc _ _ _
  refine ⟨by have := h1.1; rw [e]; omega, fun i hi => ?_⟩
  by_cases hh : i < h
  · rw [h1.2 i hh]
    have e2 : (2 * h - 1 - i) * S = h * S + (h - 1 - i) * S := by rw [← Nat.add_mul]; congr 1; omega
    rw [e2]; omega
  · have := h2.2 (i - h) (by omega)
    simp only [show h + (i - h) = i by omega] at this
    rw [this, show h - 1 - (i - h) = 2 * h - 1 - i by omega]
    have := blk_le (S := S) (show 2 * h - 1 - i < h by omega)
    omega
theorem form_of {S h A B : Nat} {f : Nat → Nat} (h1 : SrtU S h f A) (h2 : SrtD S h (fun i => f (h + i)) B) : Form S (2 * h) f (A + B) := by
  have e : 2 * h * S = 2 * (h * S) := Nat.mul_assoc _ _ _
  have hA := h1.1
  have hB := h2.1
  refine ⟨A, 2 * (h * S) - B, true, by omega, by rw [e]; omega, by rw [e]; simp only [cnt, if_true]; omega, fun i hi => ?_⟩
  by_cases hh : i < h
  · rw [h1.2 i hh]; have := blk_le (S := S) hh; simp only [frm, win, if_true]; omega
  · have := h2.2 (i - h) (by omega)
    simp only [show h + (i - h) = i by omega] at this
    rw [this]
    have e2 : i * S = h * S + (i - h) * S := by rw [← Nat.add_mul]; congr 1; omega
    have e3 : (h - 1 - (i - h)) * S + (i - h) * S + S = h * S := by rw [← Nat.add_mul, ← Nat.succ_mul]; congr 1; omega
    have := blk_le (S := S) (show i - h < h by omega)
    rw [e2]
    simp only [frm, win, if_true]
    omega
def rnd (S s t : Nat) (z : Nat → Nat) (a : Nat) : Nat :=
  if a / 2 ^ (t - 1) % 2 = 0 then (if a / 2 ^ s % 2 = 0 then min S (z a + z (a + 2 ^ (t - 1))) else z a + z (a + 2 ^ (t - 1)) - S)
  else (if a / 2 ^ s % 2 = 0 then z (a - 2 ^ (t - 1)) + z a - S else min S (z (a - 2 ^ (t - 1)) + z a))
def mrg (S s : Nat) : Nat → (Nat → Nat) → Nat → Nat
  | 0, z => z
  | t + 1, z => mrg S s t (rnd S s (t + 1) z)
theorem div_grp {t s g i : Nat} (ht : t ≤ s) (hi : i < 2 ^ t) : (g * 2 ^ t + i) / 2 ^ s = g / 2 ^ (s - t) := by
  have e : 2 ^ s = 2 ^ t * 2 ^ (s - t) := by rw [← Nat.pow_add]; congr 1; omega
  rw [e, ← Nat.div_div_eq_div_mul]
  congr 1
  rw [Nat.add_comm, Nat.add_mul_div_right _ _ (Nat.two_pow_pos t), Nat.div_eq_of_lt hi, Nat.zero_add]
theorem mrg_srt {S s : Nat} : ∀ (t : Nat), t ≤ s → ∀ (g : Nat) (z : Nat → Nat) (L : Nat), Form S (2 ^ t) (fun i => z (g * 2 ^ t + i)) L →
    (g / 2 ^ (s - t) % 2 = 0 → SrtU S (2 ^ t) (fun i => mrg S s t z (g * 2 ^ t + i)) L) ∧ (g / 2 ^ (s - t) % 2 = 1 → SrtD S (2 ^ t) (fun i => mrg S s t z (g * 2 ^ t + i)) L)
  | 0, _, g, z, L, hf => by
    obtain ⟨h1, h2⟩ := form_one hf
    simp only [Nat.pow_zero, Nat.mul_one, Nat.add_zero] at h1
    refine ⟨fun _ => ⟨by simpa using h2, fun i hi => ?_⟩, fun _ => ⟨by simpa using h2, fun i hi => ?_⟩⟩ <;>
    · obtain rfl : i = 0 := by simpa using hi
      simp only [mrg, Nat.pow_zero, Nat.mul_one, Nat.add_zero, h1, Nat.zero_mul]
      omega
  | t + 1, ht, g, z, L, hf => by
    have ep : 2 ^ (t + 1) = 2 * 2 ^ t := by rw [Nat.pow_succ, Nat.mul_comm]
    have eb : g * 2 ^ (t + 1) = 2 * g * 2 ^ t := by rw [ep, ← Nat.mul_assoc, Nat.mul_comm g 2]
    have eb2 : g * 2 ^ (t + 1) + 2 ^ t = (2 * g + 1) * 2 ^ t := by rw [eb, Nat.add_mul, Nat.one_mul]
    have hs : ∀ x, x < 2 → (2 * g + x) / 2 ^ (s - t) = g / 2 ^ (s - (t + 1)) := fun x hx => by
      have e : 2 ^ (s - t) = 2 * 2 ^ (s - (t + 1)) := by rw [← Nat.pow_succ']; congr 1; omega
      rw [e, ← Nat.div_div_eq_div_mul]
      congr 1
      omega
    have bit0 : ∀ i, i < 2 ^ t → (g * 2 ^ (t + 1) + i) / 2 ^ t % 2 = 0 := fun i hi => by
      rw [eb, div_grp (Nat.le_refl t) hi, Nat.sub_self, Nat.pow_zero, Nat.div_one]; omega
    have bit1 : ∀ i, i < 2 ^ t → (g * 2 ^ (t + 1) + (2 ^ t + i)) / 2 ^ t % 2 = 1 := fun i hi => by
      rw [← Nat.add_assoc, eb2, div_grp (Nat.le_refl t) hi, Nat.sub_self, Nat.pow_zero, Nat.div_one]; omega
    have top : ∀ i, i < 2 * 2 ^ t → (g * 2 ^ (t + 1) + i) / 2 ^ s = g / 2 ^ (s - (t + 1)) := fun i hi => div_grp ht (by rw [ep]; exact hi)
    rw [ep] at hf
    refine ⟨fun hd => ?_, fun hd => ?_⟩
    · have hh := half (lo := fun i => rnd S s (t + 1) z (g * 2 ^ (t + 1) + i)) (hi := fun i => rnd S s (t + 1) z (g * 2 ^ (t + 1) + (2 ^ t + i))) hf
        (fun i hi => by
          simp only [rnd, Nat.add_sub_cancel]
          rw [if_pos (bit0 i hi), if_pos (by rw [top i (by omega)]; exact hd)]
          simp only [ep, Nat.add_assoc, Nat.add_comm, Nat.add_left_comm])
        (fun i hi => by
          simp only [rnd, Nat.add_sub_cancel]
          rw [if_neg (by rw [bit1 i hi]; decide), if_pos (by rw [top _ (by omega)]; exact hd)]
          rw [show g * 2 ^ (t + 1) + (2 ^ t + i) - 2 ^ t = g * 2 ^ (t + 1) + i by omega]
          simp only [ep])
      have h1 := (mrg_srt (S := S) (s := s) t (by omega) (2 * g) (rnd S s (t + 1) z) _ (by rw [← eb]; exact hh.1)).1 (by have := hs 0 (by omega); rw [Nat.add_zero] at this; rw [this]; exact hd)
      have h2 := (mrg_srt (S := S) (s := s) t (by omega) (2 * g + 1) (rnd S s (t + 1) z) _ (by rw [← eb2]; simpa only [Nat.add_assoc] using hh.2)).1 (by rw [hs 1 (by omega)]; exact hd)
      rw [ep]
      rw [← eb] at h1
      rw [← eb2] at h2
      refine srtU_join (by simpa only [mrg, ep] using h1) (by simpa only [mrg, ep, Nat.add_assoc] using h2)
    · have hh := half (lo := fun i => rnd S s (t + 1) z (g * 2 ^ (t + 1) + (2 ^ t + i))) (hi := fun i => rnd S s (t + 1) z (g * 2 ^ (t + 1) + i)) hf
        (fun i hi => by
          simp only [rnd, Nat.add_sub_cancel]
          rw [if_neg (by rw [bit1 i hi]; decide), if_neg (by rw [top _ (by omega), hd]; decide)]
          rw [show g * 2 ^ (t + 1) + (2 ^ t + i) - 2 ^ t = g * 2 ^ (t + 1) + i by omega]
          simp only [ep])
        (fun i hi => by
          simp only [rnd, Nat.add_sub_cancel]
          rw [if_pos (bit0 i hi), if_neg (by rw [top i (by omega), hd]; decide)]
          simp only [ep, Nat.add_assoc, Nat.add_comm, Nat.add_left_comm])
      have h1 := (mrg_srt (S := S) (s := s) t (by omega) (2 * g) (rnd S s (t + 1) z) _ (by rw [← eb]; exact hh.2)).2 (by have := hs 0 (by omega); rw [Nat.add_zero] at this; rw [this]; exact hd)
      have h2 := (mrg_srt (S := S) (s := s) t (by omega) (2 * g + 1) (rnd S s (t + 1) z) _ (by rw [← eb2]; simpa only [Nat.add_assoc] using hh.1)).2 (by rw [hs 1 (by omega)]; exact hd)
      rw [ep]
      rw [← eb] at h1
      rw [← eb2] at h2
      refine srtD_join (by simpa only [mrg, ep] using h1) (by simpa only [mrg, ep, Nat.add_assoc] using h2)
def stg (S : Nat) (z : Nat → Nat) : Nat → Nat → Nat
  | 0 => z
  | s + 1 => mrg S (s + 1) (s + 1) (stg S z s)
theorem stg_srt {S : Nat} {z : Nat → Nat} (hz : ∀ a, z a ≤ S) : ∀ (s g : Nat), ∃ L, (g % 2 = 0 → SrtU S (2 ^ s) (fun i => stg S z s (g * 2 ^ s + i)) L) ∧ (g % 2 = 1 → SrtD S (2 ^ s) (fun i => stg S z s (g * 2 ^ s + i)) L)
  | 0, g => ⟨z g, fun _ => ⟨by simpa using hz g, fun i hi => by
      obtain rfl : i = 0 := by simpa using hi
      have := hz g
      simp [stg]; omega⟩, fun _ => ⟨by simpa using hz g, fun i hi => by
      obtain rfl : i = 0 := by simpa using hi
      have := hz g
      simp [stg]; omega⟩⟩
  | s + 1, g => by
    obtain ⟨A, hA, -⟩ := stg_srt hz s (2 * g)
    obtain ⟨B, -, hB⟩ := stg_srt hz s (2 * g + 1)
    have ep : 2 ^ (s + 1) = 2 * 2 ^ s := by rw [Nat.pow_succ, Nat.mul_comm]
    have eb : g * 2 ^ (s + 1) = 2 * g * 2 ^ s := by rw [ep, ← Nat.mul_assoc, Nat.mul_comm g 2]
    have hf : Form S (2 ^ (s + 1)) (fun i => stg S z s (g * 2 ^ (s + 1) + i)) (A + B) := by
      rw [ep]
      refine form_of (by have := hA (by omega); rw [← eb, ep] at this; exact this) ?_
      have := hB (by omega)
      rw [Nat.add_mul, Nat.one_mul, ← eb, ep] at this
      simpa only [Nat.add_assoc] using this
    have := mrg_srt (S := S) (s := s + 1) (s + 1) (Nat.le_refl _) g (stg S z s) (A + B) hf
    rw [Nat.sub_self, Nat.pow_zero, Nat.div_one] at this
    exact ⟨A + B, this.1, this.2⟩
theorem stg_all {S : Nat} {z : Nat → Nat} (hz : ∀ a, z a ≤ S) (K : Nat) : ∃ L, ∀ i, i < 2 ^ K → stg S z K i = min S (L - i * S) := by
  obtain ⟨L, h, -⟩ := stg_srt hz K 0
  refine ⟨L, fun i hi => ?_⟩
  have := (h rfl).2 i hi
  simpa using this
def tri (s : Nat) : Nat := s * (s + 1) / 2
theorem tri_succ (s : Nat) : tri (s + 1) = tri s + (s + 1) := by
  unfold tri
  rw [show (s + 1) * (s + 1 + 1) = s * (s + 1) + (s + 1) * 2 by rw [Nat.add_mul s 1, Nat.one_mul, Nat.mul_add s, Nat.mul_add s]; omega, Nat.add_mul_div_right _ _ (by decide)]
def part (S s : Nat) (z : Nat → Nat) : Nat → Nat → Nat
  | 0 => z
  | j + 1 => rnd S s (s - j) (part S s z j)
theorem part_mrg (S s : Nat) (z : Nat → Nat) : ∀ j, j ≤ s → mrg S s (s - j) (part S s z j) = mrg S s s z
  | 0, _ => rfl
  | j + 1, h => by
    have := part_mrg S s z j (by omega)
    rw [← this]
    obtain ⟨u, hu⟩ : ∃ u, s - j = u + 1 := ⟨s - j - 1, by omega⟩
    rw [hu, show s - (j + 1) = u by omega]
    show mrg S s u (rnd S s (s - j) (part S s z j)) = mrg S s u (rnd S s (u + 1) (part S s z j))
    rw [hu]
theorem part_all (S s : Nat) (z : Nat → Nat) : part S s z s = mrg S s s z := by
  have := part_mrg S s z s (Nat.le_refl _)
  rwa [Nat.sub_self] at this
theorem run_stg {S K : Nat} {st : Nat → Nat × Nat} {run : Nat → Nat → Nat} (hst : ∀ s j, s < K → j ≤ s → st (tri s + j) = (s + 1, s + 1 - j)) (hrun : ∀ r, r < tri K → run (r + 1) = rnd S (st r).1 (st r).2 (run r)) :
    ∀ s, s ≤ K → run (tri s) = stg S (run 0) s
  | 0, _ => rfl
  | s + 1, h => by
    have ih := run_stg hst hrun s (by omega)
    have mono : ∀ a b, a ≤ b → tri a ≤ tri b := fun a b hab => by
      induction hab with
      | refl => exact Nat.le_refl _
      | step _ ih => rw [tri_succ]; omega
    have hj : ∀ j, j ≤ s + 1 → run (tri s + j) = part S (s + 1) (run (tri s)) j := fun j => by
      induction j with
      | zero => intro _; rfl
      | succ j ihj =>
        intro hle
        have hlt : tri s + j < tri K := by have := mono (s + 1) K h; rw [tri_succ] at this; omega
        rw [← Nat.add_assoc, hrun _ hlt, hst s j (by omega) (by omega), ihj (by omega)]
        rfl
    rw [tri_succ, hj (s + 1) (Nat.le_refl _), part_all, ih]
    rfl
theorem tri_mono {a b : Nat} (h : a ≤ b) : tri a ≤ tri b := by
  induction h with
  | refl => exact Nat.le_refl _
  | step _ ih => rw [tri_succ]; omega
theorem tri_find : ∀ (K r : Nat), r < tri K → ∃ s j, s < K ∧ j ≤ s ∧ r = tri s + j
  | 0, r, h => by simp [tri] at h
  | K + 1, r, h => by
    by_cases hr : r < tri K
    · obtain ⟨s, j, h1, h2, h3⟩ := tri_find K r hr
      exact ⟨s, j, by omega, h2, h3⟩
    · rw [tri_succ] at h
      exact ⟨K, r - tri K, by omega, by omega, by omega⟩
def firsts (n d : Nat) : List Nat := (List.range n).filter fun a => decide (a / d % 2 = 0)
theorem firsts_succ (n d : Nat) : firsts (n + 1) d = if n / d % 2 = 0 then firsts n d ++ [n] else firsts n d := by
  unfold firsts
  rw [List.range_succ, List.filter_append]
  by_cases h : n / d % 2 = 0 <;> simp [h]
theorem partner_lt {K t a : Nat} (ht : 1 ≤ t) (hK : t ≤ K) (ha : a < 2 ^ K) (h0 : a / 2 ^ (t - 1) % 2 = 0) : a + 2 ^ (t - 1) < 2 ^ K := by
  have e : 2 ^ K = 2 * 2 ^ (K - t) * 2 ^ (t - 1) := by
    rw [← Nat.pow_succ', ← Nat.pow_add]; congr 1; omega
  rw [e] at ha ⊢
  have hp := Nat.two_pow_pos (t - 1)
  have h1 : a / 2 ^ (t - 1) < 2 * 2 ^ (K - t) := (Nat.div_lt_iff_lt_mul hp).2 ha
  refine (Nat.div_lt_iff_lt_mul hp).1 ?_
  rw [Nat.add_div_right _ hp]
  omega
theorem partner_ge {t a : Nat} (h1 : a / 2 ^ (t - 1) % 2 = 1) : 2 ^ (t - 1) ≤ a := by
  have hp := Nat.two_pow_pos (t - 1)
  rcases Nat.lt_or_ge a (2 ^ (t - 1)) with h | h
  · rw [Nat.div_eq_of_lt h] at h1; cases h1
  · exact h
theorem partner_bit {t a : Nat} (h1 : a / 2 ^ (t - 1) % 2 = 1) : (a - 2 ^ (t - 1)) / 2 ^ (t - 1) % 2 = 0 := by
  have hp := Nat.two_pow_pos (t - 1)
  have hg := partner_ge h1
  have e : a / 2 ^ (t - 1) = (a - 2 ^ (t - 1)) / 2 ^ (t - 1) + 1 := by
    rw [← Nat.add_div_right _ hp, Nat.sub_add_cancel hg]
  omega
theorem partner_bit0 {t a : Nat} (h1 : a / 2 ^ (t - 1) % 2 = 0) : (a + 2 ^ (t - 1)) / 2 ^ (t - 1) % 2 = 1 := by
  rw [Nat.add_div_right _ (Nat.two_pow_pos _)]; omega
theorem partner_out {K t a : Nat} (ht : 1 ≤ t) (hK : t ≤ K) (ha : 2 ^ K ≤ a) (h1 : a / 2 ^ (t - 1) % 2 = 1) : 2 ^ K ≤ a - 2 ^ (t - 1) := by
  have hb := partner_bit h1
  have hg := partner_ge h1
  rcases Nat.lt_or_ge (a - 2 ^ (t - 1)) (2 ^ K) with h | h
  · have := partner_lt ht hK h hb; omega
  · exact h
theorem partner_dir {s t a : Nat} (ht : 1 ≤ t) (hts : t ≤ s) (h1 : a / 2 ^ (t - 1) % 2 = 0) : (a + 2 ^ (t - 1)) / 2 ^ s = a / 2 ^ s := by
  have e : 2 ^ s = 2 ^ (t - 1) * (2 * 2 ^ (s - t)) := by
    rw [← Nat.pow_succ', ← Nat.pow_add]; congr 1; omega
  rw [e, ← Nat.div_div_eq_div_mul, ← Nat.div_div_eq_div_mul, Nat.add_div_right _ (Nat.two_pow_pos _), ← Nat.div_div_eq_div_mul, ← Nat.div_div_eq_div_mul]
  congr 1
  omega
def pairZ (S d : Nat) (up : Bool) (a : Nat) (z : Nat → Nat) (c : Nat) : Nat :=
  if c = a then (if up then min S (z a + z (a + d)) else z a + z (a + d) - S) else if c = a + d then (if up then z a + z (a + d) - S else min S (z a + z (a + d))) else z c
theorem fold_firsts {T : Type} {inv : T → Prop} {ζ : T → Nat → Nat} {S s t K : Nat} {step : T → Nat → T} (ht : 1 ≤ t) (hts : t ≤ s) (hK : t ≤ K)
    (hstep : ∀ X a, inv X → a + 2 ^ (t - 1) < 2 ^ K → a / 2 ^ (t - 1) % 2 = 0 → inv (step X a) ∧ ∀ c, ζ (step X a) c = pairZ S (2 ^ (t - 1)) (decide (a / 2 ^ s % 2 = 0)) a (ζ X) c) (X : T) (hX : inv X) : ∀ n, n ≤ 2 ^ K →
    inv ((firsts n (2 ^ (t - 1))).foldl step X) ∧ ∀ c, ζ ((firsts n (2 ^ (t - 1))).foldl step X) c = if (c / 2 ^ (t - 1) % 2 = 0 ∧ c < n) ∨ (c / 2 ^ (t - 1) % 2 = 1 ∧ c - 2 ^ (t - 1) < n) then rnd S s t (ζ X) c else ζ X c
  | 0, _ => ⟨hX, fun c => by simp [firsts]⟩
  | n + 1, hn => by
    obtain ⟨ih1, ih2⟩ := fold_firsts ht hts hK hstep X hX n (by omega)
    rw [firsts_succ]
    by_cases h0 : n / 2 ^ (t - 1) % 2 = 0
    · rw [if_pos h0, List.foldl_append]
      obtain ⟨a1, a2⟩ := hstep _ n ih1 (partner_lt ht hK (by omega) h0) h0
      refine ⟨a1, fun c => ?_⟩
      have hpb := partner_bit0 h0
      have hpd := partner_dir ht hts h0
      show ζ (step ((firsts n (2 ^ (t - 1))).foldl step X) n) c = _
      rw [a2 c]
      unfold pairZ
      have e1 : ζ ((firsts n (2 ^ (t - 1))).foldl step X) n = ζ X n := by
        rw [ih2 n, if_neg]
        omega
      have e2 : ζ ((firsts n (2 ^ (t - 1))).foldl step X) (n + 2 ^ (t - 1)) = ζ X (n + 2 ^ (t - 1)) := by
        rw [ih2, if_neg]
        omega
      rw [e1, e2]
      by_cases hc : c = n
      · subst hc
        rw [if_pos rfl, if_pos (show (c / 2 ^ (t - 1) % 2 = 0 ∧ c < c + 1) ∨ (c / 2 ^ (t - 1) % 2 = 1 ∧ c - 2 ^ (t - 1) < c + 1) from .inl ⟨h0, by omega⟩)]
        unfold rnd
        rw [if_pos h0]
        by_cases hu : c / 2 ^ s % 2 = 0 <;> simp [hu]
      · rw [if_neg hc]
        by_cases hc2 : c = n + 2 ^ (t - 1)
        · subst hc2
          rw [if_pos rfl, if_pos (show ((n + 2 ^ (t - 1)) / 2 ^ (t - 1) % 2 = 0 ∧ n + 2 ^ (t - 1) < n + 1) ∨ ((n + 2 ^ (t - 1)) / 2 ^ (t - 1) % 2 = 1 ∧ n + 2 ^ (t - 1) - 2 ^ (t - 1) < n + 1) from .inr ⟨hpb, by omega⟩)]
          unfold rnd
          rw [if_neg (show ¬ (n + 2 ^ (t - 1)) / 2 ^ (t - 1) % 2 = 0 by rw [hpb]; decide), hpd, Nat.add_sub_cancel]
          by_cases hu : n / 2 ^ s % 2 = 0 <;> simp [hu]
        · rw [if_neg hc2, ih2 c]
          have : ((c / 2 ^ (t - 1) % 2 = 0 ∧ c < n) ∨ (c / 2 ^ (t - 1) % 2 = 1 ∧ c - 2 ^ (t - 1) < n)) ↔ ((c / 2 ^ (t - 1) % 2 = 0 ∧ c < n + 1) ∨ (c / 2 ^ (t - 1) % 2 = 1 ∧ c - 2 ^ (t - 1) < n + 1)) := by
            have hg : c / 2 ^ (t - 1) % 2 = 1 → 2 ^ (t - 1) ≤ c := partner_ge
            omega
          simp only [this]
    · rw [if_neg h0]
      refine ⟨ih1, fun c => ?_⟩
      rw [ih2 c]
      have : ((c / 2 ^ (t - 1) % 2 = 0 ∧ c < n) ∨ (c / 2 ^ (t - 1) % 2 = 1 ∧ c - 2 ^ (t - 1) < n)) ↔ ((c / 2 ^ (t - 1) % 2 = 0 ∧ c < n + 1) ∨ (c / 2 ^ (t - 1) % 2 = 1 ∧ c - 2 ^ (t - 1) < n + 1)) := by
        have hg : c / 2 ^ (t - 1) % 2 = 1 → 2 ^ (t - 1) ≤ c := partner_ge
        have hb : c / 2 ^ (t - 1) % 2 = 1 → (c - 2 ^ (t - 1)) / 2 ^ (t - 1) % 2 = 0 := partner_bit
        have h3 : c = n → ¬ c / 2 ^ (t - 1) % 2 = 0 := fun h => h ▸ h0
        have h4 : c - 2 ^ (t - 1) = n → ¬ (c - 2 ^ (t - 1)) / 2 ^ (t - 1) % 2 = 0 := fun h => h ▸ h0
        omega
      simp only [this]
def netTo {T : Type} (n : Nat) (far : Nat → Nat) (step : Nat → T → Nat → T) (X : T) : Nat → T
  | 0 => X
  | r + 1 => (firsts n (far r)).foldl (step r) (netTo n far step X r)
theorem net_srt {T : Type} {inv : T → Prop} {ζ : T → Nat → Nat} {S K : Nat} {st : Nat → Nat × Nat} {step : Nat → T → Nat → T} {X : T}
    (hst : ∀ s j, s < K → j ≤ s → st (tri s + j) = (s + 1, s + 1 - j)) (hinv : inv X) (hle : ∀ X, inv X → ∀ a, ζ X a ≤ S) (hout : ∀ X, inv X → ∀ a, 2 ^ K ≤ a → ζ X a = 0)
    (hstep : ∀ r X a, r < tri K → inv X → a + 2 ^ ((st r).2 - 1) < 2 ^ K → a / 2 ^ ((st r).2 - 1) % 2 = 0 → inv (step r X a) ∧ ∀ c, ζ (step r X a) c = pairZ S (2 ^ ((st r).2 - 1)) (decide (a / 2 ^ (st r).1 % 2 = 0)) a (ζ X) c) :
    inv (netTo (2 ^ K) (fun r => 2 ^ ((st r).2 - 1)) step X (tri K)) ∧ ∃ L, ∀ i, i < 2 ^ K → ζ (netTo (2 ^ K) (fun r => 2 ^ ((st r).2 - 1)) step X (tri K)) i = min S (L - i * S) := by
  obtain ⟨run, hrun⟩ : ∃ run, run = netTo (2 ^ K) (fun r => 2 ^ ((st r).2 - 1)) step X := ⟨_, rfl⟩
  have hall : ∀ r, r ≤ tri K → inv (run r) ∧ ∀ r', r = r' + 1 → ∀ c, ζ (run r) c = rnd S (st r').1 (st r').2 (ζ (run r')) c := fun r => by
    induction r with
    | zero => exact fun _ => ⟨by rw [hrun]; exact hinv, fun r' h => by cases h⟩
    | succ r ih =>
      intro hr
      obtain ⟨h1, -⟩ := ih (by omega)
      obtain ⟨s, j, hs, hj, rfl⟩ := tri_find K r (by omega)
      have e := hst s j hs hj
      have ff := fold_firsts (inv := inv) (ζ := ζ) (S := S) (s := s + 1) (t := s + 1 - j) (K := K) (step := step (tri s + j)) (by omega) (by omega) (by omega)
        (fun X a hX h2 h3 => by have := hstep (tri s + j) X a (by omega) hX (by rw [e]; exact h2) (by rw [e]; exact h3); rw [e] at this; exact this) (run (tri s + j)) h1 (2 ^ K) (Nat.le_refl _)
      have er : run (tri s + j + 1) = (firsts (2 ^ K) (2 ^ (s + 1 - j - 1))).foldl (step (tri s + j)) (run (tri s + j)) := by
        rw [hrun]; show (firsts (2 ^ K) (2 ^ ((st (tri s + j)).2 - 1))).foldl _ _ = _; rw [e]
      rw [er]
      refine ⟨ff.1, fun r' hr' c => ?_⟩
      obtain rfl : r' = tri s + j := by omega
      rw [ff.2 c]
      simp only [e]
      split
      · rfl
      · rename_i hn
        have hc : 2 ^ K ≤ c := by
          rcases Nat.lt_or_ge c (2 ^ K) with h | h
          · rcases Nat.mod_two_eq_zero_or_one (c / 2 ^ (s + 1 - j - 1)) with h0 | h0
            · exact absurd (.inl ⟨h0, h⟩) hn
            · exact absurd (.inr ⟨h0, Nat.lt_of_le_of_lt (Nat.sub_le _ _) h⟩) hn
          · exact h
        have hz : ∀ a, 2 ^ K ≤ a → ζ (run (tri s + j)) a = 0 := hout _ h1
        have hb : c / 2 ^ (s + 1 - j - 1) % 2 = 1 → 2 ^ K ≤ c - 2 ^ (s + 1 - j - 1) := partner_out (by omega) (by omega) hc
        unfold rnd
        rw [hz c hc]
        rcases Nat.mod_two_eq_zero_or_one (c / 2 ^ (s + 1 - j - 1)) with h0 | h0
        · rw [if_pos h0, hz (c + 2 ^ (s + 1 - j - 1)) (Nat.le_add_right_of_le hc)]
          split <;> simp
        · rw [if_neg (by rw [h0]; decide), hz _ (hb h0)]
          split <;> simp
  have h2 := run_stg (S := S) (K := K) (st := st) (run := fun r => if r ≤ tri K then ζ (run r) else ζ (run 0)) hst (fun r hr => by
    show (if r + 1 ≤ tri K then ζ (run (r + 1)) else ζ (run 0)) = rnd S (st r).1 (st r).2 (if r ≤ tri K then ζ (run r) else ζ (run 0))
    rw [if_pos (by omega), if_pos (by omega)]
    exact funext ((hall (r + 1) (by omega)).2 r rfl)) K (Nat.le_refl _)
  simp only [Nat.le_refl, if_true, Nat.zero_le] at h2
  rw [← hrun]
  refine ⟨(hall _ (Nat.le_refl _)).1, ?_⟩
  rw [h2]
  exact stg_all (fun a => hle _ (hall 0 (Nat.zero_le _)).1 a) K
end Go.Proofs.Ytldkjjnjdjfipaa.Bit
namespace Go.Proofs.Ytldkjjnjdjfipaa
open Go Go.RowKit
set_option linter.unusedVariables false
set_option linter.unusedSimpArgs false
theorem rds_loc {w w' : World} {a : Option Addr} {l : List Value} (h : Rds w a l) (hb : 0 < l.length → w'.heap[aB a]? = w.heap[aB a]?) : Rds w' a l := fun j u hj => by
  have hl : 0 < l.length := by have := (List.getElem?_eq_some_iff.1 hj).1; omega
  have h1 := h j u hj
  refine ⟨h1.1, ?_⟩
  rw [← h1.2]
  unfold World.cell?
  rw [hb hl]
theorem subA_aB (a : Option Addr) (c k z : Nat) : aB (subA a c k z) = aB a := by
  unfold subA
  split
  · rfl
  · cases a with
    | none => rfl
    | some p => obtain ⟨b, o, z2⟩ := p; simp [aB, Addr.add]; split <;> rfl
theorem SH.join {w0 w : World} {D : List Nat} {p q r : Res} {N : List Res} (h : SH w0 D (p :: q :: N) w) (hf : ∀ b ∈ r.fp, b ∈ p.fp ∨ b ∈ q.fp) (ho : r.ok w) : SH w0 D (r :: N) w := by
  have h1 := List.pairwise_cons.1 h.disj
  have h2 := List.pairwise_cons.1 h1.2
  refine ⟨h.os, h.tape, h.output, h.size, h.old, ?_, ?_, ?_⟩
  · intro x hx
    rcases List.mem_cons.1 hx with rfl | hx
    · exact ho
    · exact h.ok x (List.mem_cons_of_mem _ (List.mem_cons_of_mem _ hx))
  · intro x hx b hb
    rcases List.mem_cons.1 hx with rfl | hx
    · rcases hf b hb with h3 | h3
      · exact h.own p List.mem_cons_self b h3
      · exact h.own q (List.mem_cons_of_mem _ List.mem_cons_self) b h3
    · exact h.own x (List.mem_cons_of_mem _ (List.mem_cons_of_mem _ hx)) b hb
  · refine List.pairwise_cons.2 ⟨fun x hx b hb hb2 => ?_, h2.2⟩
    rcases hf b hb with h3 | h3
    · exact h1.1 x (List.mem_cons_of_mem _ hx) b h3 hb2
    · exact h2.1 x hx b h3 hb2
end Go.Proofs.Ytldkjjnjdjfipaa
namespace Go.Proofs.Ytldkjjnjdjfipaa
open Go Go.RowKit
set_option linter.unusedVariables false
set_option linter.unusedSimpArgs false
section
variable {P : Program} {w0 : World} {D : List Nat} {σ : Fr} {L L' M : List Res}
theorem SH.rowC {a : Option Addr} {cap m sz : Nat} {t : TypeId} {l vs : List Value} {k : Nat} {w : World} (h : SH w0 D (osl a cap m sz t l :: L) w) (hv : 0 < vs.length) (hfit : k + vs.length ≤ l.length) :
    ∃ g cur, a = some ⟨g, 0, none⟩ ∧ w.heap[g]? = some (.cells cur t (0, 0)) ∧ l.length ≤ cur.size ∧ SH w0 D (osl a cap m sz t (l.take k ++ vs ++ l.drop (k + vs.length)) :: L) (w.setRow g (cur.toList.take k ++ vs ++ cur.toList.drop (k + vs.length)).toArray) := by
  have hok : w.ownsRow 0 t sz (.slice a m cap) m l := h.ok (osl a cap m sz t l) (by simp)
  have hown := h.own (osl a cap m sz t l) (by simp)
  have hpos : 0 < m * sz := by rw [← hok.1]; omega
  rcases hok.2 with ⟨hvv, hn⟩ | ⟨g, cap', cur, hvv, hb0, hg, hle, hm, hcs, ht⟩
  · rw [hn] at hpos; omega
  · injection hvv with e1 e2 e3
    subst e1; subst e3
    have hlen := hok.1
    have hcl : l.length ≤ cur.size := by rw [hlen, hcs]; exact Nat.mul_le_mul_right _ hle
    refine ⟨g, cur, rfl, hg, hcl, ?_⟩
    have hsz : (cur.toList.take k ++ vs ++ cur.toList.drop (k + vs.length)).length = cur.size := by simp; omega
    refine SH.frame (A := [osl (some ⟨g, 0, none⟩) cap m sz t l]) (A' := [osl (some ⟨g, 0, none⟩) cap m sz t (l.take k ++ vs ++ l.drop (k + vs.length))]) h ⟨rfl, rfl, rfl, by simp, fun j hj hjD => setRow_other w g j _ (fun e => hjD (by simp [osl, Value.ownBlock, e])), ?_, ?_, by simp⟩
    · intro p hp
      simp at hp; subst hp
      refine ⟨by simp [← hlen]; omega, .inr ⟨g, cap, (cur.toList.take k ++ vs ++ cur.toList.drop (k + vs.length)).toArray, rfl, Nat.zero_le _, setRow_heap w g cur _ t _ hg, hle, hm, ?_, ?_⟩⟩
      · simp only [List.size_toArray]; rw [hsz, hcs]
      · simp only [List.append_assoc, List.toList_toArray] at *
        show (cur.toList.take k ++ (vs ++ cur.toList.drop (k + vs.length))).take (m * sz) = l.take k ++ (vs ++ l.drop (k + vs.length))
        rw [← ht, List.take_take, Nat.min_eq_left (by omega)]
        rw [List.take_append, List.take_append]
        have h2 : (List.take k cur.toList).length = k := by simp; omega
        rw [h2, List.take_of_length_le (by rw [h2]; omega), List.take_of_length_le (l := vs) (by omega)]
        congr 2
        rw [List.drop_take]
        congr 1
        omega
    · intro p hp c hc
      simp at hp; subst hp
      simp [osl, Value.ownBlock] at hc; subst hc
      exact ⟨.inr (by simp [osl, Value.ownBlock]), by simpa using (hown _ (by simp [osl, Value.ownBlock])).2⟩
end
end Go.Proofs.Ytldkjjnjdjfipaa
namespace Go.Proofs.Ytldkjjnjdjfipaa
open Go Go.RowKit
set_option linter.unusedVariables false
set_option linter.unusedSimpArgs false
section
variable {P : Program} {w0 : World} {D : List Nat} {σ : Fr} {L M : List Res}
theorem e_copy {α : Type} {enc : α → List Value} {s x : Operand} {t t2 e : TypeId} {i : TypeInfo} {a da a2 : Option Addr} {cap n sz j k q dn dc c2 : Nat} {xs ns zs : List α} {K : Value → List Res → Prop} {d : Option Tmp} {ty : TypeId} {pos : String} {af : Array Edge} {g : Option (Nat × Bool)}
    (hlen : ∀ x, (enc x).length = sz) (hone : ∀ x, (enc x).all Value.oneCell' = true) (ht : P.underlying t = some (.slice e)) (hi : P.info? e = some i) (hsize : i.size = sz) (hsz : 0 < sz)
    (hs : ev σ s = .slice da dn dc) (hx : ev σ x = .slice a2 k c2) (hk : k = ns.length) (hp : Pick L (osl a cap n sz e (xs.flatMap enc)) M) (hxl : xs.length = n) (hda : ∀ b, a = some ⟨b, 0, none⟩ → da = some ⟨b, j * sz, none⟩)
    (hsrc : ∀ w, SH w0 D L w → Rds w a2 (ns.flatMap enc)) (hq : min k dn = q) (hq0 : 0 < q) (hroom : j + q ≤ n) (hz : xs.take j ++ ns.take q ++ xs.drop (j + q) = zs)
    (hK : K (.int .i64 ((q : Nat) : Int)) (osl a cap n sz e (zs.flatMap enc) :: M)) : OpE P w0 D σ L ⟨d, .call { callee := .builtin .copy, args := #[s, x], argTypes := #[t, t2] }, ty, pos, af, g⟩ K := by
  subst hk; subst hz; subst hsize
  refine .mk (by simp) fun w hw => ?_
  have hw' := hw.pick hp
  have hfl := fl_len hlen xs
  have htl : (ns.take q).length = q := by rw [List.length_take]; omega
  have hnl := fl_len hlen (ns.take q)
  rw [htl] at hnl
  have hvp : 0 < ((ns.take q).flatMap enc).length := by rw [hnl]; exact Nat.mul_pos hq0 hsz
  have hfit : j * i.size + ((ns.take q).flatMap enc).length ≤ (xs.flatMap enc).length := by rw [hnl, hfl, hxl, ← Nat.add_mul]; exact Nat.mul_le_mul_right _ hroom
  obtain ⟨b, cur, ha, hb, hcl, hs2⟩ := SH.rowC hw' hvp hfit
  have e1 : (xs.flatMap enc).take (j * i.size) ++ (ns.take q).flatMap enc ++ (xs.flatMap enc).drop (j * i.size + ((ns.take q).flatMap enc).length) = (xs.take j ++ ns.take q ++ xs.drop (j + q)).flatMap enc := by
    rw [hnl, ← Nat.add_mul, fl_take hlen, fl_drop hlen, fl_app, fl_app]
  rw [e1] at hs2
  have hsr : Rds w a2 ((ns.take q).flatMap enc) := by
    rw [← fl_take hlen]
    exact (hsrc w hw).take _
  have hh := Rds.head hsr hvp
  have hnews : ∀ j u, ((ns.take q).flatMap enc)[j]? = some u → w.cell? ((⟨aB a2, aO a2, none⟩ : Addr).add j) = some u := fun j u hj => by
    have h3 := (hsr j u hj).2
    rw [Addr.add_lit]
    exact h3
  have hr := run_firstCells_some (P := P) w i.size q ⟨aB a2, aO a2, none⟩ ns.length c2 ((ns.take q).flatMap enc) hnl hnews
  have hst := run_storeCells_at P b (j * i.size) e ((ns.take q).flatMap enc) 0 cur w hb (by omega) (fun u hu => List.all_eq_true.1 (fl_one hone _) u hu)
  simp only [Nat.add_zero] at hst
  rw [hda b ha] at hs
  rw [hh] at hx
  have hqm : Nat.min ns.length dn = q := hq
  exact ⟨_, _, _, by simp [execOp, resolve, invoke, builtin, hs, hx, Builtin.copy_, run_underlying ht, sizeOf, typeInfo, hi, Builtin.lenOf, hqm, hr, hst, goInt], hs2, hK⟩
end
end Go.Proofs.Ytldkjjnjdjfipaa
namespace Go.Proofs.Ytldkjjnjdjfipaa
open Go Go.RowKit
set_option linter.unusedVariables false
set_option linter.unusedSimpArgs false
section
variable {P : Program} {w0 : World} {D : List Nat} {n : Nat} {r : Option Nat} {ds : List Nat} {σ : Fr} {L L1 : List Res}
def anyT (P : Program) (w0 : World) (D : List Nat) (n : Nat) (ops : Array Oper) (nk : List Nat) (L1 L0 : List Res) (K : Fr → List Res → Prop) : Nat → Array Bool → Fr → List Res → Prop
  | 0, listed, σ, L => Region.ready .any ops listed = [] ∧ K σ L
  | fuel + 1, listed, σ, L =>
    (Region.ready .any ops listed = [] → K σ L) ∧
    ∀ i ∈ Region.ready .any ops listed, opS P w0 D n ops i (fun σ' L' => ((i ∈ nk ∧ Ent L' L1) ∨ (Ent L' L0 ∧ Ent L' L1)) ∧ anyT P w0 D n ops nk L1 L0 K fuel (listed.setIfInBounds i true) σ' L') σ L
theorem anyT_sound {ops : Array Oper} {nk : List Nat} {L0 : List Res} {K : Fr → List Res → Prop} {Q : Exit → Act → World → Prop} (hQ : ∀ a w, toN w0 D n ds K .normal a w → Q .normal a w) : ∀ (fuel : Nat) (listed : Array Bool) (σ : Fr) (L : List Res) (a : Act) (w : World),
    FrOK n ds σ a → SH w0 D L w → anyT P w0 D n ops nk L1 L0 K fuel listed σ L → wpAnyIn (FW r) 0 P .any ops Q fuel listed a w
  | 0, _, σ, L, a, w, hf, hs, h => ⟨h.1, hQ _ _ ⟨σ, L, hf, hs, h.2⟩⟩
  | fuel + 1, listed, σ, L, a, w, hf, hs, h => ⟨fun h0 => hQ _ _ ⟨σ, L, hf, hs, h.1 h0⟩, fun i hi => opS_sound hf hs (h.2 i hi) (fun a w σ L h1 h2 h3 => anyT_sound hQ fuel _ σ L a w h1 h2 h3.2)⟩
theorem wpS_anyT {Q : Post} {id : Nat} {ops : Array Oper} (L1 L0 : List Res) (nk : List Nat) (hm : P.follows .mixedOrders = true) (h : anyT P w0 D n ops nk L1 L0 (fun σ' L' => Q .normal ds σ' L') ops.size (Array.replicate ops.size false) σ L) :
    wpS P w0 D n r (.region id ops true) Q ds σ L :=
  fun a w hf hs => wpIn_region_any hm (anyT_sound (fun a w hh => toN_Q _ _ _ hh) _ _ _ _ a _ hf hs.drew h)
theorem anyT_first {ops : Array Oper} {nk : List Nat} {L0 : List Res} {K : Fr → List Res → Prop} {i : Nat} {oi : Oper} {v : Value} (F : Nat) (hi : ops[i]? = some oi) (hsel : ∀ (j : Nat) (o : Oper) cs b, ops[j]? = some o → o.op ≠ .select cs b) :
    ∀ (fuel : Nat) (listed : Array Bool) (σ : Fr) (L : List Res), Closed ops listed →
      (∀ j oj, ops[j]? = some oj → j ≠ i → listed.getD j true = false → (∀ e ∈ oj.after, Region.binds .any e = true → e.on ≠ i) → oi.apart ops oj = true ∧ (depK ops F j i = false → j ∉ nk)) →
      i ∈ Region.ready .any ops listed → Yq P w0 D n ops L0 oi v σ → Ent L L0 → Ent L L1 →
      anyT P w0 D n ops nk L1 L0 K fuel (listed.setIfInBounds i true) (updO σ oi.dst v) L → anyT P w0 D n ops nk L1 L0 K (fuel + 1) listed σ L := by
  intro fuel
  induction fuel with
  | zero =>
    intro listed σ L _ _ hr hy hL hL1 H
    refine ⟨fun h => (by rw [h] at hr; cases hr), fun j hj => ?_⟩
    by_cases hji : j = i
    · subst hji; exact hy.opS hi hL ⟨.inr ⟨hL, hL1⟩, H⟩
    · have := ready_mono hj hji
      rw [H.1] at this
      cases this
  | succ fuel ih =>
    intro listed σ L hcl hfree hr hy hL hL1 H
    refine ⟨fun h => (by rw [h] at hr; cases hr), fun j hj => ?_⟩
    by_cases hji : j = i
    · subst hji; exact hy.opS hi hL ⟨.inr ⟨hL, hL1⟩, H⟩
    · have h1 := H.2 j (ready_mono hj hji)
      obtain ⟨hjun, oj, hoj, hall⟩ := mem_ready.1 hj
      have hnot : ∀ e ∈ oj.after, Region.binds .any e = true → e.on ≠ i := fun e he hb heq => by
        have h1 := hall e he hb
        have h0 := (mem_ready.1 hr).1
        rw [heq] at h1
        rcases Nat.lt_or_ge i listed.size with h' | h'
        · simp [h'] at h0 h1; rw [h0] at h1; cases h1
        · simp [Array.getElem?_eq_none h'] at h1
      have hff := hfree j oj hoj hji hjun hnot
      have hnk : j ∉ nk := hff.2 (dep_ready hcl hoj hall (mem_ready.1 hr).1)
      have h2 := opS_put hoj hff.1 (fun cs b => hsel i oi cs b hi) (fun cs b => hsel j oj cs b hoj) hy h1
      have hfree' : ∀ k ok, ops[k]? = some ok → k ≠ i → (listed.setIfInBounds j true).getD k true = false →
          (∀ e ∈ ok.after, Region.binds .any e = true → e.on ≠ i) → oi.apart ops ok = true ∧ (depK ops F k i = false → k ∉ nk) := fun k ok hk hki hun hno => by
        refine hfree k ok hk hki ?_ hno
        by_cases hjk : j = k
        · subst hjk; exact hjun
        · rw [getD_set_ne true hjk] at hun; exact hun
      refine opS_mono (fun σ' L' h3 => ?_) h2
      have hb : Ent L' L0 ∧ Ent L' L1 := h3.2.1.resolve_left fun e => hnk e.1
      refine ⟨.inr hb, ih (listed.setIfInBounds j true) σ' L' (hcl.set hoj hall) hfree' (ready_mono hr (Ne.symm hji)) h3.1 hb.1 hb.2 ?_⟩
      rw [Array.setIfInBounds_comm _ _ hji]
      exact h3.2.2
theorem anyT_firstF {ops : Array Oper} {nk : List Nat} {L0 : List Res} {K : Fr → List Res → Prop} {i : Nat} {oi : Oper} {v : Value} (hi : ops[i]? = some oi) (hsel : ∀ (j : Nat) (o : Oper) cs b, ops[j]? = some o → o.op ≠ .select cs b) (hnk : i ∈ nk) :
    ∀ (fuel : Nat) (listed : Array Bool) (σ : Fr) (L : List Res),
      (∀ j oj, ops[j]? = some oj → j ≠ i → listed.getD j true = false → (∀ e ∈ oj.after, Region.binds .any e = true → e.on ≠ i) → oi.apart ops oj = true) →
      i ∈ Region.ready .any ops listed → Yq P w0 D n ops L1 oi v σ → Ent L L1 →
      anyT P w0 D n ops nk L1 L0 K fuel (listed.setIfInBounds i true) (updO σ oi.dst v) L → anyT P w0 D n ops nk L1 L0 K (fuel + 1) listed σ L := by
  intro fuel
  induction fuel with
  | zero =>
    intro listed σ L _ hr hy hL1 H
    refine ⟨fun h => (by rw [h] at hr; cases hr), fun j hj => ?_⟩
    by_cases hji : j = i
    · subst hji; exact hy.opS hi hL1 ⟨.inl ⟨hnk, hL1⟩, H⟩
    · have := ready_mono hj hji
      rw [H.1] at this
      cases this
  | succ fuel ih =>
    intro listed σ L hfree hr hy hL1 H
    refine ⟨fun h => (by rw [h] at hr; cases hr), fun j hj => ?_⟩
    by_cases hji : j = i
    · subst hji; exact hy.opS hi hL1 ⟨.inl ⟨hnk, hL1⟩, H⟩
    · have h1 := H.2 j (ready_mono hj hji)
      obtain ⟨hjun, oj, hoj, hall⟩ := mem_ready.1 hj
      have hnot : ∀ e ∈ oj.after, Region.binds .any e = true → e.on ≠ i := fun e he hb heq => by
        have h1 := hall e he hb
        have h0 := (mem_ready.1 hr).1
        rw [heq] at h1
        rcases Nat.lt_or_ge i listed.size with h' | h'
        · simp [h'] at h0 h1; rw [h0] at h1; cases h1
        · simp [Array.getElem?_eq_none h'] at h1
      have hff := hfree j oj hoj hji hjun hnot
      have h2 := opS_put hoj hff (fun cs b => hsel i oi cs b hi) (fun cs b => hsel j oj cs b hoj) hy h1
      have hfree' : ∀ k ok, ops[k]? = some ok → k ≠ i → (listed.setIfInBounds j true).getD k true = false →
          (∀ e ∈ ok.after, Region.binds .any e = true → e.on ≠ i) → oi.apart ops ok = true := fun k ok hk hki hun hno => by
        refine hfree k ok hk hki ?_ hno
        by_cases hjk : j = k
        · subst hjk; exact hjun
        · rw [getD_set_ne true hjk] at hun; exact hun
      refine opS_mono (fun σ' L' h3 => ?_) h2
      have hb : Ent L' L1 := h3.2.1.elim (fun e => e.2) fun e => e.2
      refine ⟨h3.2.1, ih (listed.setIfInBounds j true) σ' L' hfree' (ready_mono hr (Ne.symm hji)) h3.1 hb ?_⟩
      rw [Array.setIfInBounds_comm _ _ hji]
      exact h3.2.2
theorem anyT_takeF {ops : Array Oper} {nk : List Nat} {L0 : List Res} {K : Fr → List Res → Prop} {i : Nat} {oi : Oper} {v : Value} {fuel : Nat} {listed : Array Bool} (hi : ops[i]? = some oi) (hs : Region.noSelect ops = true) (hf : Region.free .any ops listed i = true) (hk : nk.contains i = true)
    (hr : (Region.ready .any ops listed).contains i = true) (hy : Yq P w0 D n ops L1 oi v σ) (hL1 : Ent L L1)
    (h : anyT P w0 D n ops nk L1 L0 K fuel (listed.setIfInBounds i true) (updO σ oi.dst v) L) : anyT P w0 D n ops nk L1 L0 K (fuel + 1) listed σ L :=
  anyT_firstF hi (Region.noSelect_spec hs) (by simpa using hk) fuel listed σ L (fun j oj h1 h2 h3 h4 => Region.free_spec hi hf j oj h1 h2 h3 h4) (by simpa using hr) hy hL1 h
def freeT (ops : Array Oper) (listed : Array Bool) (i : Nat) (nk : List Nat) : Bool :=
  closedB ops listed && nk.all fun j => listed.getD j true || depK ops 8 j i
theorem freeT_spec {ops : Array Oper} {listed : Array Bool} {i : Nat} {nk : List Nat} (h : freeT ops listed i nk = true) {j : Nat} (hl : listed.getD j true = false) (hw : depK ops 8 j i = false) : j ∉ nk := fun hm => by
  unfold freeT at h
  rw [Bool.and_eq_true] at h
  have h1 := List.all_eq_true.1 h.2 j hm
  rw [hl, hw] at h1
  cases h1
theorem anyT_take {ops : Array Oper} {nk : List Nat} {L0 : List Res} {K : Fr → List Res → Prop} {i : Nat} {oi : Oper} {v : Value} {fuel : Nat} {listed : Array Bool} (hi : ops[i]? = some oi) (hs : Region.noSelect ops = true) (hf : Region.free .any ops listed i = true) (hk : freeT ops listed i nk = true)
    (hr : (Region.ready .any ops listed).contains i = true) (hy : Yq P w0 D n ops L0 oi v σ) (hL : Ent L L0) (hL1 : Ent L L1)
    (h : anyT P w0 D n ops nk L1 L0 K fuel (listed.setIfInBounds i true) (updO σ oi.dst v) L) : anyT P w0 D n ops nk L1 L0 K (fuel + 1) listed σ L :=
  anyT_first 8 hi (Region.noSelect_spec hs) fuel listed σ L (closed_of (by unfold freeT at hk; rw [Bool.and_eq_true] at hk; exact hk.1)) (fun j oj h1 h2 h3 h4 => ⟨Region.free_spec hi hf j oj h1 h2 h3 h4, freeT_spec hk h3⟩) (by simpa using hr) hy hL hL1 h
theorem anyT_done {ops : Array Oper} {nk : List Nat} {L0 : List Res} {K : Fr → List Res → Prop} {fuel : Nat} {listed : Array Bool} (hr : Region.ready .any ops listed = []) (h : K σ L) : anyT P w0 D n ops nk L1 L0 K fuel listed σ L := by
  cases fuel with
  | zero => exact ⟨hr, h⟩
  | succ k => exact ⟨fun _ => h, by rw [hr]; simp⟩
theorem anyT_all {ops : Array Oper} {nk : List Nat} {L0 : List Res} {K : Fr → List Res → Prop} {rs : List Nat} {fuel : Nat} {listed : Array Bool} (hr : Region.ready .any ops listed = rs) (hne : rs ≠ [])
    (h : ∀ i ∈ rs, opS P w0 D n ops i (fun σ' L' => ((i ∈ nk ∧ Ent L' L1) ∨ (Ent L' L0 ∧ Ent L' L1)) ∧ anyT P w0 D n ops nk L1 L0 K fuel (listed.setIfInBounds i true) σ' L') σ L) : anyT P w0 D n ops nk L1 L0 K (fuel + 1) listed σ L :=
  ⟨fun h0 => absurd (hr ▸ h0) hne, hr ▸ h⟩
end
end Go.Proofs.Ytldkjjnjdjfipaa
