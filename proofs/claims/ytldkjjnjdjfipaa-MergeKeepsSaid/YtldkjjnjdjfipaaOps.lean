/- The walk's steps on single operations, over the small logic of 'Core'. It states nothing of the program. -/
import Derived.Test.YtldkjjnjdjfipaaCore
namespace Go.Proofs.Ytldkjjnjdjfipaa
open Go Go.RowKit
set_option linter.unusedVariables false
set_option linter.unusedSimpArgs false

/-! ### Operations that yield one value and leave the world alone (but for what a call lays) -/
section
variable (P : Program) (w0 : World) (D : List Nat) (n : Nat)

/-- What an operation's run says, when it yields 'v' in every world of the class. -/
def qUpon (w0 : World) (D : List Nat) (L : List Res) (w : World) (v : Value) : Result Next → Prop
  | .ok (.value u) w' => w' = w ∧ u = v
  | .ok .skip w' => w' = w ∧ v = undef
  | .ok (.enter f args) w' => w' = w ∧ Calls P f args w (fun e w'' => e = .returned v ∧ SH w0 D L w'')
  | _ => False

/-- In the frame σ, in every world in which L holds, operation 'o' yields v; L holds behind it. -/
def OpY (σ : Fr) (L : List Res) (o : Oper) (v : Value) : Prop :=
  (∀ c, o.op ≠ .defer c) ∧ ∀ w, SH w0 D L w → qUpon P w0 D L w v ((execOp (ev σ) o).run P w)

/-- .. it is carried out, and leaves v and L'. (The names of new blocks are bound in v, L': 'K' is what follows.) -/
def OpE (σ : Fr) (L : List Res) (o : Oper) (K : Value → List Res → Prop) : Prop :=
  (∀ c, o.op ≠ .defer c) ∧ ∀ w, SH w0 D L w →
    (∃ v w' L', (execOp (ev σ) o).run P w = .ok (.value v) w' ∧ SH w0 D L' w' ∧ K v L') ∨
    (∃ w' L', (execOp (ev σ) o).run P w = .ok .skip w' ∧ SH w0 D L' w' ∧ K undef L') ∨
    (∃ f args, (execOp (ev σ) o).run P w = .ok (.enter f args) w ∧ Calls P f args w (fun e w' => ∃ v L', e = .returned v ∧ SH w0 D L' w' ∧ K v L')) ∨
    (∃ l f tmps assign body, (execOp (ev σ) o).run P w = .ok (.round l f tmps assign body) w ∧ RoundIn (FW none) 0 P l f tmps assign body w (fun e w' => ∃ v L', e = .returned v ∧ SH w0 D L' w' ∧ K v L'))
end

section
variable {P : Program} {w0 : World} {D : List Nat} {n : Nat} {r : Option Nat} {ds : List Nat} {σ : Fr} {L : List Res}

theorem OpY.E {o : Oper} {v : Value} (h : OpY P w0 D σ L o v) {K : Value → List Res → Prop} (hK : K v L) : OpE P w0 D σ L o K := by
  refine ⟨h.1, fun w hs => ?_⟩
  have h2 := h.2 w hs
  generalize (execOp (ev σ) o).run P w = x at *
  cases x with
  | ok y w' =>
    cases y <;> simp only [qUpon] at h2
    case value u => obtain ⟨rfl, rfl⟩ := h2; exact .inl ⟨_, _, L, rfl, hs, hK⟩
    case skip => obtain ⟨rfl, rfl⟩ := h2; exact .inr (.inl ⟨_, L, rfl, hs, hK⟩)
    case enter f args => obtain ⟨rfl, hc⟩ := h2; exact .inr (.inr (.inl ⟨f, args, rfl, hc.mono fun e w' ⟨he, hs'⟩ => ⟨v, L, he, hs', hK⟩⟩))
  | halt x w' => simp only [qUpon] at h2

theorem OpE.mono {o : Oper} {K K' : Value → List Res → Prop} (hk : ∀ v L, K v L → K' v L) (h : OpE P w0 D σ L o K) : OpE P w0 D σ L o K' := by
  refine ⟨h.1, fun w hs => ?_⟩
  rcases h.2 w hs with ⟨v, w', L', a, b, c⟩ | ⟨w', L', a, b, c⟩ | ⟨f, args, a, b⟩ | ⟨l, f, ts, as, bo, a, b⟩
  · exact .inl ⟨v, w', L', a, b, hk _ _ c⟩
  · exact .inr (.inl ⟨w', L', a, b, hk _ _ c⟩)
  · exact .inr (.inr (.inl ⟨f, args, a, b.mono fun e w' ⟨v, L', x, y, z⟩ => ⟨v, L', x, y, hk _ _ z⟩⟩))
  · exact .inr (.inr (.inr ⟨l, f, ts, as, bo, a, b.mono fun e w' ⟨v, L', x, y, z⟩ => ⟨v, L', x, y, hk _ _ z⟩⟩))

/-! ### A region's list of operations, in the text's order -/
def toN (w0 : World) (D : List Nat) (n : Nat) (ds : List Nat) (K : Fr → List Res → Prop) : Exit → Act → World → Prop
  | .normal, a, w => ∃ σ L, FrOK n ds σ a ∧ SH w0 D L w ∧ K σ L
  | _, _, _ => False

def wpL (P : Program) (w0 : World) (D : List Nat) (n : Nat) (r : Option Nat) (ds : List Nat) (ops : Array Oper) (K : Fr → List Res → Prop) (l : List Oper) (σ : Fr) (L : List Res) : Prop :=
  ∀ a w, FrOK n ds σ a → SH w0 D L w → wpListIn (FW r) 0 P ops (toN w0 D n ds K) l a w

def updO (σ : Fr) : Option Nat → Value → Fr
  | some d, v => upd σ d v
  | none, _ => σ
def okO (n : Nat) : Option Nat → Bool
  | some d => Nat.blt d n
  | none => true
theorem FrOK.putO {a : Act} (h : FrOK n ds σ a) {d : Option Nat} (hd : okO n d = true) (v : Value) : FrOK n ds (updO σ d v) (a.put d v) := by
  cases d with
  | none => exact h
  | some d => exact h.put hd v

theorem aboutW (o : Oper) (a : Act) (w : World) : ∀ f, o.about P w a.eval = some f → (FW r).fn f := fun _ _ => trivial

/-- One operation of the list carried out. -/
theorem wpIn_of_E {o : Oper} {a : Act} {w : World} {K : Fr → List Res → Prop} {Q : Exit → Act → World → Prop} {N : Act → World → Prop} (hf : FrOK n ds σ a) (hs : SH w0 D L w) (hd : okO n o.dst = true)
    (h : OpE P w0 D σ L o (fun v L' => K (updO σ o.dst v) L')) (hN : ∀ a w σ L, FrOK n ds σ a → SH w0 D L w → K σ L → N a w) : o.wpIn (FW r) 0 P a w N Q := by
  refine ⟨aboutW o a w, ?_⟩
  rw [Oper.semAt_eq _ _ _ h.1, hf.ev']
  rcases h.2 w hs with ⟨v, w', L', e, hs', hk⟩ | ⟨w', L', e, hs', hk⟩ | ⟨f, args, e, hc⟩ | ⟨l, f, ts, as, bo, e, hc⟩
  · rw [e]
    exact hN _ _ _ _ (hf.putO hd v) hs' hk
  · rw [e]
    exact hN _ _ _ _ (hf.putO hd undef) hs' hk
  · rw [e]
    refine ⟨fun hx => by simp [FW] at hx, ?_⟩
    have hc' : CallsIn (FW r) (0 - 1) P f args w (fun e w' => ∃ v L', e = .returned v ∧ SH w0 D L' w' ∧ K (updO σ o.dst v) L') := (callsIn_wide (n := 0)).2 hc
    refine hc'.mono fun e w' ⟨v, L', he, hs', hk⟩ => ?_
    subst he
    exact hN _ _ _ _ (hf.putO hd v) hs' hk
  · rw [e]
    refine ⟨fun hx => by simp [FW] at hx, ?_⟩
    have hc' : RoundIn (FW r) (0 - 1) P l f ts as bo w (fun e w' => ∃ v L', e = .returned v ∧ SH w0 D L' w' ∧ K (updO σ o.dst v) L') := hc
    refine hc'.mono fun e w' ⟨v, L', he, hs', hk⟩ => ?_
    subst he
    exact hN _ _ _ _ (hf.putO hd v) hs' hk

theorem wanted_none {d : Option Tmp} {op : Op} {ty : TypeId} {pos : String} {af : Array Edge} {y : Nat → Option Bool} : Region.wanted ⟨d, op, ty, pos, af, none⟩ y = true := rfl

theorem wpL_nil {ops : Array Oper} {K : Fr → List Res → Prop} (h : K σ L) : wpL P w0 D n r ds ops K [] σ L := fun _ _ hf hs => ⟨_, _, hf, hs, h⟩

theorem wpL_e {ops : Array Oper} {K : Fr → List Res → Prop} {d : Option Tmp} {op : Op} {ty : TypeId} {pos : String} {af : Array Edge} {l : List Oper} (hd : okO n d = true)
    (h : OpE P w0 D σ L ⟨d, op, ty, pos, af, none⟩ (fun v L' => wpL P w0 D n r ds ops K l (updO σ d v) L')) : wpL P w0 D n r ds ops K (⟨d, op, ty, pos, af, none⟩ :: l) σ L := fun a w hf hs => by
  unfold wpListIn
  rw [if_pos wanted_none]
  exact wpIn_of_E hf hs hd h (fun a w σ L h1 h2 h3 => h3 a w h1 h2)

theorem wpL_y {ops : Array Oper} {K : Fr → List Res → Prop} {d : Option Tmp} {op : Op} {ty : TypeId} {pos : String} {af : Array Edge} {l : List Oper} {v : Value} (hd : okO n d = true)
    (hy : OpY P w0 D σ L ⟨d, op, ty, pos, af, none⟩ v) (h : wpL P w0 D n r ds ops K l (updO σ d v) L) : wpL P w0 D n r ds ops K (⟨d, op, ty, pos, af, none⟩ :: l) σ L :=
  wpL_e hd (hy.E h)

/-- A guard's Bool. -/
theorem yielded_eq {ops : Array Oper} {a : Act} {j d : Nat} {o : Oper} {b : Bool} (hf : FrOK n ds σ a) (hj : ops[j]? = some o) (hd : o.dst = some d) (hlt : Nat.blt d n = true) (hb : σ d = .bool b) : yielded ops a.tmps j = some b := by
  have hlt' : d < a.tmps.size := by rw [hf.size]; simpa using hlt
  have hg := hf.get d
  rw [Array.getD_eq_getD_getElem?, Array.getElem?_eq_getElem hlt'] at hg
  simp only [Option.getD_some] at hg
  simp only [yielded, hj, Option.bind_some, hd, Array.getElem?_eq_getElem hlt', hg, hb]
theorem yielded_undef {ops : Array Oper} {a : Act} {j d : Nat} {o : Oper} (hf : FrOK n ds σ a) (hj : ops[j]? = some o) (hd : o.dst = some d) (hlt : Nat.blt d n = true) (hb : σ d = undef) : yielded ops a.tmps j = none := by
  have hlt' : d < a.tmps.size := by rw [hf.size]; simpa using hlt
  have hg := hf.get d
  rw [Array.getD_eq_getD_getElem?, Array.getElem?_eq_getElem hlt'] at hg
  simp only [Option.getD_some] at hg
  simp only [yielded, hj, Option.bind_some, hd, Array.getElem?_eq_getElem hlt', hg, hb, undef]

/-- A guarded operation that is wanted. -/
theorem wpL_ge {ops : Array Oper} {K : Fr → List Res → Prop} {d : Option Tmp} {op : Op} {ty : TypeId} {pos : String} {af : Array Edge} {l : List Oper} {j dj : Nat} {o : Oper} {b : Bool} (hd : okO n d = true)
    (hj : ops[j]? = some o) (hdj : o.dst = some dj) (hlt : Nat.blt dj n = true) (hb : σ dj = .bool b)
    (h : OpE P w0 D σ L ⟨d, op, ty, pos, af, some (j, b)⟩ (fun v L' => wpL P w0 D n r ds ops K l (updO σ d v) L')) : wpL P w0 D n r ds ops K (⟨d, op, ty, pos, af, some (j, b)⟩ :: l) σ L := fun a w hf hs => by
  unfold wpListIn
  rw [if_pos (by simp [Region.wanted, yielded_eq hf hj hdj hlt hb])]
  exact wpIn_of_E hf hs hd h (fun a w σ L h1 h2 h3 => h3 a w h1 h2)

theorem wpL_gy {ops : Array Oper} {K : Fr → List Res → Prop} {d : Option Tmp} {op : Op} {ty : TypeId} {pos : String} {af : Array Edge} {l : List Oper} {j dj : Nat} {o : Oper} {b : Bool} {v : Value} (hd : okO n d = true)
    (hj : ops[j]? = some o) (hdj : o.dst = some dj) (hlt : Nat.blt dj n = true) (hb : σ dj = .bool b)
    (hy : OpY P w0 D σ L ⟨d, op, ty, pos, af, some (j, b)⟩ v) (h : wpL P w0 D n r ds ops K l (updO σ d v) L) : wpL P w0 D n r ds ops K (⟨d, op, ty, pos, af, some (j, b)⟩ :: l) σ L :=
  wpL_ge hd hj hdj hlt hb (hy.E h)

/-- .. that is not: its guard's Bool is the other one. -/
theorem wpL_no {ops : Array Oper} {K : Fr → List Res → Prop} {d : Option Tmp} {op : Op} {ty : TypeId} {pos : String} {af : Array Edge} {l : List Oper} {j dj : Nat} {o : Oper} {b b' : Bool} (hd : okO n d = true)
    (hj : ops[j]? = some o) (hdj : o.dst = some dj) (hlt : Nat.blt dj n = true) (hb : σ dj = .bool b') (hne : b' = !b)
    (h : wpL P w0 D n r ds ops K l (updO σ d undef) L) : wpL P w0 D n r ds ops K (⟨d, op, ty, pos, af, some (j, b)⟩ :: l) σ L := fun a w hf hs => by
  unfold wpListIn
  rw [if_neg (by subst hne; simp [Region.wanted, yielded_eq hf hj hdj hlt hb])]
  exact ⟨aboutW _ a w, h _ _ (hf.putO hd undef) hs⟩
/-- .. or was passed over itself. -/
theorem wpL_nu {ops : Array Oper} {K : Fr → List Res → Prop} {d : Option Tmp} {op : Op} {ty : TypeId} {pos : String} {af : Array Edge} {l : List Oper} {j dj : Nat} {o : Oper} {b : Bool} (hd : okO n d = true)
    (hj : ops[j]? = some o) (hdj : o.dst = some dj) (hlt : Nat.blt dj n = true) (hb : σ dj = undef)
    (h : wpL P w0 D n r ds ops K l (updO σ d undef) L) : wpL P w0 D n r ds ops K (⟨d, op, ty, pos, af, some (j, b)⟩ :: l) σ L := fun a w hf hs => by
  unfold wpListIn
  rw [if_neg (by simp [Region.wanted, yielded_undef hf hj hdj hlt hb])]
  exact ⟨aboutW _ a w, h _ _ (hf.putO hd undef) hs⟩

theorem wpIn_monoQ {F : Fence} {m : Nat} {o : Oper} {a : Act} {w : World} {K K' : Act → World → Prop} {Q Q' : Exit → Act → World → Prop} (h : ∀ a w, K a w → K' a w) (hq : ∀ e a w, Q e a w → Q' e a w)
    (hh : o.wpIn F m P a w K Q) : o.wpIn F m P a w K' Q' := by
  have hl : LetsOut Q → LetsOut Q' := fun ⟨a, w, hx⟩ => ⟨a, w, hq _ _ _ hx⟩
  unfold Oper.wpIn at *
  refine ⟨hh.1, ?_⟩
  have hh := hh.2
  generalize (o.semAt F.round a.eval).run P w = r at *
  cases r with
  | ok x w' =>
    cases x <;> simp only [Oper.uponIn] at hh ⊢ <;>
      first
        | exact h _ _ hh
        | exact ⟨hh.1, CallsIn.mono hh.2 (fun e w'' he => by cases e <;> first | exact h _ _ he | exact hq _ _ _ he | exact hl he)⟩
        | exact ⟨hh.1, RowsIn.mono hh.2 (fun _ _ he => h _ _ he)⟩
        | exact ⟨hh.1, RoundIn.mono hh.2 (fun e w'' he => by cases e <;> first | exact h _ _ he | exact hq _ _ _ he | exact hl he)⟩
  | halt x w' => cases x <;> simp only [Oper.uponIn] at hh ⊢ <;> exact hq _ _ _ hh

theorem toN_Q {Q : Post} : ∀ e a w, toN w0 D n ds (fun σ' L' => Q .normal ds σ' L') e a w → toQ w0 D n Q e a w
  | .normal, _, _, ⟨σ, L, h1, h2, h3⟩ => ⟨ds, σ, L, h1, h2, h3⟩
  | .exit _, _, _, h => h.elim
  | .goto _, _, _, h => h.elim
  | .ret, _, _, h => h.elim
  | .panic _, _, _, h => h.elim
  | .outgrown, _, _, h => h.elim

theorem wpS_region {Q : Post} {id : Nat} {l : List Oper} (h : wpL P w0 D n r ds l.toArray (fun σ' L' => Q .normal ds σ' L') l σ L) : wpS P w0 D n r (.region id l.toArray false) Q ds σ L :=
  fun a w hf hs => wpIn_region_lit (by
    have mono : ∀ (l' : List Oper) (a : Act) (w : World), wpListIn (FW r) 0 P l.toArray (toN w0 D n ds (fun σ' L' => Q .normal ds σ' L')) l' a w → wpListIn (FW r) 0 P l.toArray (toQ w0 D n Q) l' a w := by
      intro l'
      induction l' with
      | nil => exact fun a w hh => toN_Q _ _ _ hh
      | cons o l' ih =>
        intro a w hh
        unfold wpListIn at hh ⊢
        split
        · rename_i hw; rw [if_pos hw] at hh
          exact wpIn_monoQ (fun a w => ih a w) toN_Q hh
        · rename_i hw; rw [if_neg hw] at hh
          exact ⟨hh.1, ih _ _ hh.2⟩
    exact mono l a w (h a w hf hs))

/-! ### A region whose order is open -/

/-- Quiet whatever is laid beside L. -/
def OpQ (P : Program) (w0 : World) (D : List Nat) (σ : Fr) (L : List Res) (o : Oper) (v : Value) : Prop :=
  ∀ L', Ent L' L → OpY P w0 D σ L' o v

/-- Number i of the region comes up in the state σ, L. -/
def opS (P : Program) (w0 : World) (D : List Nat) (n : Nat) (ops : Array Oper) (i : Nat) (K : Fr → List Res → Prop) (σ : Fr) (L : List Res) : Prop :=
  match ops[i]? with
  | none => K σ L
  | some o => okO n o.dst = true ∧
    match o.guard with
    | none => OpE P w0 D σ L o (fun v L' => K (updO σ o.dst v) L')
    | some (j, b) => ∃ oj dj, ops[j]? = some oj ∧ oj.dst = some dj ∧ Nat.blt dj n = true ∧
        ((σ dj = .bool b ∧ OpE P w0 D σ L o (fun v L' => K (updO σ o.dst v) L')) ∨ ((σ dj = .bool (!b) ∨ σ dj = undef) ∧ K (updO σ o.dst undef) L))

theorem opS_sound {ops : Array Oper} {i : Nat} {K : Fr → List Res → Prop} {Q : Exit → Act → World → Prop} {N : Act → World → Prop} {a : Act} {w : World} (hf : FrOK n ds σ a) (hs : SH w0 D L w)
    (h : opS P w0 D n ops i K σ L) (hN : ∀ a w σ L, FrOK n ds σ a → SH w0 D L w → K σ L → N a w) : wpOpIn (FW r) 0 P ops Q i N a w := by
  unfold opS at h
  unfold wpOpIn
  split
  · rename_i ho; simp only [ho] at h; exact hN _ _ _ _ hf hs h
  · rename_i o ho
    simp only [ho] at h
    obtain ⟨hd, h⟩ := h
    cases hg : o.guard with
    | none =>
      simp only [hg] at h
      rw [if_pos (by simp [Region.wanted, hg])]
      exact wpIn_of_E hf hs hd h hN
    | some g =>
      obtain ⟨j, b⟩ := g
      simp only [hg] at h
      obtain ⟨oj, dj, h1, h2, h3, h4⟩ := h
      rcases h4 with ⟨hb, hE⟩ | ⟨hb, hk⟩
      · rw [if_pos (by simp [Region.wanted, hg, yielded_eq hf h1 h2 h3 hb])]
        exact wpIn_of_E hf hs hd hE hN
      · rw [if_neg ?_]
        · exact ⟨aboutW o a w, hN _ _ _ _ (hf.putO hd undef) hs hk⟩
        · rcases hb with hb | hb
          · simp [Region.wanted, hg, yielded_eq hf h1 h2 h3 hb]
          · simp [Region.wanted, hg, yielded_undef hf h1 h2 h3 hb]

theorem opS_mono {ops : Array Oper} {i : Nat} {K K' : Fr → List Res → Prop} (hk : ∀ σ L, K σ L → K' σ L) (h : opS P w0 D n ops i K σ L) : opS P w0 D n ops i K' σ L := by
  unfold opS at *
  split
  · rename_i ho; simp only [ho] at h; exact hk _ _ h
  · rename_i o ho
    simp only [ho] at h
    refine ⟨h.1, ?_⟩
    have h := h.2
    cases hg : o.guard with
    | none => simp only [hg] at h ⊢; exact h.mono fun v L => hk _ _
    | some g =>
      obtain ⟨j, b⟩ := g
      simp only [hg] at h ⊢
      obtain ⟨oj, dj, h1, h2, h3, h4⟩ := h
      exact ⟨oj, dj, h1, h2, h3, h4.imp (fun ⟨x, y⟩ => ⟨x, y.mono fun v L => hk _ _⟩) (fun ⟨x, y⟩ => ⟨x, hk _ _ y⟩)⟩

/-- Whatever order is picked from here on; all that comes up keeps what L0 says ('B': what holds of every state on the way). -/
def anyS (P : Program) (w0 : World) (D : List Nat) (n : Nat) (ops : Array Oper) (nk : List Nat) (L0 : List Res) (K : Fr → List Res → Prop) : Nat → Array Bool → Fr → List Res → Prop
  | 0, listed, σ, L => Region.ready .any ops listed = [] ∧ K σ L
  | fuel + 1, listed, σ, L =>
    (Region.ready .any ops listed = [] → K σ L) ∧
    ∀ i ∈ Region.ready .any ops listed, opS P w0 D n ops i (fun σ' L' => (i ∈ nk ∨ Ent L' L0) ∧ anyS P w0 D n ops nk L0 K fuel (listed.setIfInBounds i true) σ' L') σ L

theorem anyS_sound {ops : Array Oper} {nk : List Nat} {L0 : List Res} {K : Fr → List Res → Prop} {Q : Exit → Act → World → Prop} (hQ : ∀ a w, toN w0 D n ds K .normal a w → Q .normal a w) : ∀ (fuel : Nat) (listed : Array Bool) (σ : Fr) (L : List Res) (a : Act) (w : World),
    FrOK n ds σ a → SH w0 D L w → anyS P w0 D n ops nk L0 K fuel listed σ L → wpAnyIn (FW r) 0 P .any ops Q fuel listed a w
  | 0, _, σ, L, a, w, hf, hs, h => ⟨h.1, hQ _ _ ⟨σ, L, hf, hs, h.2⟩⟩
  | fuel + 1, listed, σ, L, a, w, hf, hs, h => ⟨fun h0 => hQ _ _ ⟨σ, L, hf, hs, h.1 h0⟩, fun i hi => opS_sound hf hs (h.2 i hi) (fun a w σ L h1 h2 h3 => anyS_sound hQ fuel _ σ L a w h1 h2 h3.2)⟩

theorem wpS_any {Q : Post} {id : Nat} {ops : Array Oper} (nk : List Nat) (hm : P.follows .mixedOrders = true) (h : anyS P w0 D n ops nk L (fun σ' L' => Q .normal ds σ' L') ops.size (Array.replicate ops.size false) σ L) :
    wpS P w0 D n r (.region id ops true) Q ds σ L :=
  fun a w hf hs => wpIn_region_any hm (anyS_sound (fun a w hh => toN_Q _ _ _ hh) _ _ _ _ a _ hf hs.drew h)

/-- Number i yields v whatever is laid beside L0. -/
def Yq (P : Program) (w0 : World) (D : List Nat) (n : Nat) (ops : Array Oper) (L0 : List Res) (o : Oper) (v : Value) (σ : Fr) : Prop :=
  okO n o.dst = true ∧
  match o.guard with
  | none => OpQ P w0 D σ L0 o v
  | some (j, b) => ∃ oj dj, ops[j]? = some oj ∧ oj.dst = some dj ∧ Nat.blt dj n = true ∧
      ((σ dj = .bool b ∧ OpQ P w0 D σ L0 o v) ∨ ((σ dj = .bool (!b) ∨ σ dj = undef) ∧ v = undef))

theorem Yq.opS {ops : Array Oper} {L0 : List Res} {i : Nat} {o : Oper} {v : Value} (hi : ops[i]? = some o) (hy : Yq P w0 D n ops L0 o v σ) (hL : Ent L L0) {K : Fr → List Res → Prop} (h : K (updO σ o.dst v) L) : opS P w0 D n ops i K σ L := by
  unfold Go.Proofs.Ytldkjjnjdjfipaa.opS
  simp only [hi]
  refine ⟨hy.1, ?_⟩
  have hy := hy.2
  cases hg : o.guard with
  | none => simp only [hg] at hy ⊢; exact (hy L hL).E h
  | some g =>
    obtain ⟨j, b⟩ := g
    simp only [hg] at hy ⊢
    obtain ⟨oj, dj, h1, h2, h3, h4⟩ := hy
    refine ⟨oj, dj, h1, h2, h3, h4.imp (fun ⟨x, y⟩ => ⟨x, (y L hL).E h⟩) (fun ⟨x, y⟩ => ⟨x, ?_⟩)⟩
    subst y
    exact h

theorem ev_congr {σ σ' : Fr} {x : Operand} (h : ∀ d, x = .tmp d → σ' d = σ d) : ev σ' x = ev σ x := by
  cases x with
  | tmp t => exact h t rfl
  | _ => rfl

theorem execOp_ev {o : Oper} (hs : ∀ cs b, o.op ≠ .select cs b) {ops : Array Oper} {σ σ' : Fr} (h : ∀ d, d ∈ o.looksAt ops → σ' d = σ d) : execOp (ev σ') o = execOp (ev σ) o :=
  execOp_congr o hs fun x hx => ev_congr fun d hd => h d (by
    subst hd
    exact List.mem_append_left _ (List.mem_filterMap.2 ⟨.tmp d, by simpa using hx, rfl⟩))

theorem guard_looks {o : Oper} {ops : Array Oper} {j : Nat} {b : Bool} {oj : Oper} {dj : Nat} (hg : o.guard = some (j, b)) (hj : ops[j]? = some oj) (hd : oj.dst = some dj) : dj ∈ o.looksAt ops := by
  unfold Oper.looksAt
  exact List.mem_append_right _ (by simp [hg, hj, hd])

theorem OpY.congr {o : Oper} {v : Value} (hsel : ∀ cs b, o.op ≠ .select cs b) {ops : Array Oper} {σ' : Fr} (h : ∀ d, d ∈ o.looksAt ops → σ' d = σ d) (hy : OpY P w0 D σ L o v) : OpY P w0 D σ' L o v := by
  refine ⟨hy.1, fun w hs => ?_⟩
  rw [execOp_ev hsel h]
  exact hy.2 w hs
theorem OpE.congr {o : Oper} {K : Value → List Res → Prop} (hsel : ∀ cs b, o.op ≠ .select cs b) {ops : Array Oper} {σ' : Fr} (h : ∀ d, d ∈ o.looksAt ops → σ' d = σ d) (hy : OpE P w0 D σ L o K) : OpE P w0 D σ' L o K := by
  refine ⟨hy.1, fun w hs => ?_⟩
  rw [execOp_ev hsel h]
  exact hy.2 w hs

theorem Yq.congr {ops : Array Oper} {L0 : List Res} {o : Oper} {v : Value} (hsel : ∀ cs b, o.op ≠ .select cs b) {σ' : Fr} (h : ∀ d, d ∈ o.looksAt ops → σ' d = σ d) (hy : Yq P w0 D n ops L0 o v σ) : Yq P w0 D n ops L0 o v σ' := by
  refine ⟨hy.1, ?_⟩
  have hy := hy.2
  cases hg : o.guard with
  | none => simp only [hg] at hy ⊢; exact fun L' hL => (hy L' hL).congr hsel h
  | some g =>
    obtain ⟨j, b⟩ := g
    simp only [hg] at hy ⊢
    obtain ⟨oj, dj, h1, h2, h3, h4⟩ := hy
    have hdj : σ' dj = σ dj := h dj (guard_looks hg h1 h2)
    exact ⟨oj, dj, h1, h2, h3, by rw [hdj]; exact h4.imp (fun ⟨x, y⟩ => ⟨x, fun L' hL => (y L' hL).congr hsel h⟩) id⟩

theorem updO_ne {d : Option Nat} {v : Value} {i : Nat} (h : ∀ e, d = some e → i ≠ e) : updO σ d v i = σ i := by
  cases d with
  | none => rfl
  | some e => exact upd_ne σ v (h e rfl)

theorem updO_comm {x y : Option Nat} {v u : Value} (h : ∀ d, x = some d → y ≠ some d) : updO (updO σ x v) y u = updO (updO σ y u) x v := by
  cases x with
  | none => rfl
  | some d =>
    cases y with
    | none => rfl
    | some e =>
      have hne : d ≠ e := fun he => h d rfl (he ▸ rfl)
      funext i
      simp only [updO]
      by_cases h1 : i = d
      · subst h1; rw [upd_ne _ _ hne, upd_same, upd_same]
      · by_cases h2 : i = e
        · subst h2; rw [upd_same, upd_ne _ _ h1, upd_same]
        · rw [upd_ne _ _ h2, upd_ne _ _ h1, upd_ne _ _ h1, upd_ne _ _ h2]

/-- Operation 'oj', apart from 'oi', which yields: whether oi's value is there already makes no difference to it, and it makes none to oi. -/
theorem opS_put {ops : Array Oper} {L0 : List Res} {j : Nat} {oi oj : Oper} {v : Value} (hj : ops[j]? = some oj) (hap : oi.apart ops oj = true) (hsi : ∀ cs b, oi.op ≠ .select cs b) (hsj : ∀ cs b, oj.op ≠ .select cs b)
    {K : Fr → List Res → Prop} (hy : Yq P w0 D n ops L0 oi v σ) (h : opS P w0 D n ops j K (updO σ oi.dst v) L) :
    opS P w0 D n ops j (fun σ' L' => Yq P w0 D n ops L0 oi v σ' ∧ K (updO σ' oi.dst v) L') σ L := by
  obtain ⟨h1, h2, h3⟩ := Oper.apart_spec hap
  have keep : ∀ u, Yq P w0 D n ops L0 oi v (updO σ oj.dst u) := fun u => hy.congr hsi fun d hd => updO_ne fun e he hde => h3 e he (hde ▸ hd)
  have back : ∀ d, d ∈ oj.looksAt ops → σ d = updO σ oi.dst v d := fun d hd => (updO_ne fun e he hde => h1 e he (hde ▸ hd)).symm
  unfold opS at *
  simp only [hj] at *
  refine ⟨h.1, ?_⟩
  have h := h.2
  cases hg : oj.guard with
  | none =>
    simp only [hg] at h ⊢
    exact (h.congr hsj back).mono fun u L' hk => ⟨keep u, by rw [← updO_comm h2]; exact hk⟩
  | some g =>
    obtain ⟨k, b⟩ := g
    simp only [hg] at h ⊢
    obtain ⟨ok, dk, g1, g2, g3, g4⟩ := h
    have hdk : σ dk = updO σ oi.dst v dk := back dk (guard_looks hg g1 g2)
    refine ⟨ok, dk, g1, g2, g3, ?_⟩
    rw [hdk]
    refine g4.imp (fun ⟨x, y⟩ => ⟨x, (y.congr hsj back).mono fun u L' hk => ⟨keep u, by rw [← updO_comm h2]; exact hk⟩⟩) (fun ⟨x, y⟩ => ⟨x, keep undef, by rw [← updO_comm h2]; exact y⟩)

/-- i must have come up ahead of j (looked for F steps deep) -/
def depK (ops : Array Oper) : Nat → Nat → Nat → Bool
  | 0, _, _ => false
  | F + 1, j, i => match ops[j]? with
    | some oj => oj.after.any fun e => Region.binds .any e && (Nat.beq e.on i || depK ops F e.on i)
    | none => false
/-- what has come up has all that it waits for -/
def Closed (ops : Array Oper) (listed : Array Bool) : Prop := ∀ j oj, ops[j]? = some oj → listed.getD j false = true → ∀ e ∈ oj.after, Region.binds .any e = true → listed.getD e.on false = true
def closedB (ops : Array Oper) (listed : Array Bool) : Bool := (List.range ops.size).all fun j => !listed.getD j false || (match ops[j]? with | some oj => oj.after.all fun e => !Region.binds .any e || listed.getD e.on false | none => true)
theorem closed_of {ops : Array Oper} {listed : Array Bool} (h : closedB ops listed = true) : Closed ops listed := fun j oj hj hl e he hb => by
  have h1 := List.all_eq_true.1 h j (List.mem_range.2 (Array.getElem?_eq_some_iff.1 hj).1)
  rw [hl, hj] at h1
  simp only [Bool.not_true, Bool.false_or, Array.all_eq_true_iff_forall_mem] at h1
  have h2 := h1 e he
  rw [hb] at h2
  simpa using h2
theorem getD_ft {listed : Array Bool} {i : Nat} (h : listed.getD i false = true) : listed.getD i true = true := by
  rw [Array.getD_eq_getD_getElem?] at *
  cases hx : listed[i]? <;> simp_all
theorem dep_listed {ops : Array Oper} {listed : Array Bool} {i : Nat} (hcl : Closed ops listed) : ∀ (F j : Nat), listed.getD j false = true → depK ops F j i = true → listed.getD i false = true
  | 0, _, _, h => by cases h
  | F + 1, j, hl, h => by
    unfold depK at h
    split at h
    · rename_i oj hj
      simp only [Array.any_eq_true', Bool.and_eq_true, Bool.or_eq_true] at h
      obtain ⟨e, he, hb, h | h⟩ := h
      · rw [← Nat.eq_of_beq_eq_true h]; exact hcl j oj hj hl e he hb
      · exact dep_listed hcl F e.on (hcl j oj hj hl e he hb) h
    · cases h
theorem dep_ready {ops : Array Oper} {listed : Array Bool} {i : Nat} (hcl : Closed ops listed) {F j : Nat} {oj : Oper} (hj : ops[j]? = some oj) (hall : ∀ e ∈ oj.after, Region.binds .any e = true → listed.getD e.on false = true) (hi : listed.getD i true = false) : depK ops F j i = false := by
  have hc : ¬ listed.getD i false = true := fun h => by rw [getD_ft h] at hi; cases hi
  cases F with
  | zero => rfl
  | succ F =>
    cases hd : depK ops (F + 1) j i with
    | false => rfl
    | true =>
      unfold depK at hd
      rw [hj] at hd
      simp only [Array.any_eq_true', Bool.and_eq_true, Bool.or_eq_true] at hd
      obtain ⟨e, he, hb, h | h⟩ := hd
      · rw [← Nat.eq_of_beq_eq_true h] at hc; exact absurd (hall e he hb) hc
      · exact absurd (dep_listed hcl F e.on (hall e he hb) h) hc
theorem Closed.set {ops : Array Oper} {listed : Array Bool} {j : Nat} {oj : Oper} (hcl : Closed ops listed) (hj : ops[j]? = some oj) (hall : ∀ e ∈ oj.after, Region.binds .any e = true → listed.getD e.on false = true) : Closed ops (listed.setIfInBounds j true) := by
  have up : ∀ k, listed.getD k false = true → (listed.setIfInBounds j true).getD k false = true := fun k hk => by
    rw [Array.getD_eq_getD_getElem?, Array.getElem?_setIfInBounds]
    rw [Array.getD_eq_getD_getElem?] at hk
    split
    · split
      · rfl
      · subst_vars; rename_i h; rw [Array.getElem?_eq_none (by omega)] at hk; exact hk
    · exact hk
  intro k ok hk hl e he hb
  by_cases hjk : j = k
  · subst hjk
    rw [hj] at hk; cases hk
    exact up _ (hall e he hb)
  · refine up _ (hcl k ok hk ?_ e he hb)
    rw [Array.getD_eq_getD_getElem?, Array.getElem?_setIfInBounds, if_neg hjk, ← Array.getD_eq_getD_getElem?] at hl
    exact hl

/-- **An operation that may come up now and yields may be taken first.** -/
theorem anyS_first {ops : Array Oper} {nk : List Nat} {L0 : List Res} {K : Fr → List Res → Prop} {i : Nat} {oi : Oper} {v : Value} (F : Nat) (hi : ops[i]? = some oi) (hsel : ∀ (j : Nat) (o : Oper) cs b, ops[j]? = some o → o.op ≠ .select cs b) :
    ∀ (fuel : Nat) (listed : Array Bool) (σ : Fr) (L : List Res), Closed ops listed →
      (∀ j oj, ops[j]? = some oj → j ≠ i → listed.getD j true = false → (∀ e ∈ oj.after, Region.binds .any e = true → e.on ≠ i) → oi.apart ops oj = true ∧ (depK ops F j i = false → j ∉ nk)) →
      i ∈ Region.ready .any ops listed → Yq P w0 D n ops L0 oi v σ → Ent L L0 →
      anyS P w0 D n ops nk L0 K fuel (listed.setIfInBounds i true) (updO σ oi.dst v) L → anyS P w0 D n ops nk L0 K (fuel + 1) listed σ L := by
  intro fuel
  induction fuel with
  | zero =>
    intro listed σ L _ _ hr hy hL H
    refine ⟨fun h => (by rw [h] at hr; cases hr), fun j hj => ?_⟩
    by_cases hji : j = i
    · subst hji; exact hy.opS hi hL ⟨.inr hL, H⟩
    · have := ready_mono hj hji
      rw [H.1] at this
      cases this
  | succ fuel ih =>
    intro listed σ L hcl hfree hr hy hL H
    refine ⟨fun h => (by rw [h] at hr; cases hr), fun j hj => ?_⟩
    by_cases hji : j = i
    · subst hji; exact hy.opS hi hL ⟨.inr hL, H⟩
    · have h1 := H.2 j (ready_mono hj hji)
      obtain ⟨hjun, oj, hoj, hall⟩ := mem_ready.1 hj
      have hnot : ∀ e ∈ oj.after, Region.binds .any e = true → e.on ≠ i := fun e he hb heq => by
        have h1 := hall e he hb
        have h0 := (mem_ready.1 hr).1
        rw [heq] at h1
        rcases Nat.lt_or_ge i listed.size with h' | h'
        · simp [h'] at h0 h1; rw [h0] at h1; cases h1
        · simp [Array.getElem?_eq_none h'] at h1
      have hff := hfree j oj hoj hji hjun hnot
      have hnk : j ∉ nk := hff.2 (dep_ready hcl hoj hall (mem_ready.1 hr).1)
      have h2 := opS_put hoj hff.1 (fun cs b => hsel i oi cs b hi) (fun cs b => hsel j oj cs b hoj) hy h1
      have hfree' : ∀ k ok, ops[k]? = some ok → k ≠ i → (listed.setIfInBounds j true).getD k true = false →
          (∀ e ∈ ok.after, Region.binds .any e = true → e.on ≠ i) → oi.apart ops ok = true ∧ (depK ops F k i = false → k ∉ nk) := fun k ok hk hki hun hno => by
        refine hfree k ok hk hki ?_ hno
        by_cases hjk : j = k
        · subst hjk; exact hjun
        · rw [getD_set_ne true hjk] at hun; exact hun
      refine opS_mono (fun σ' L' h3 => ⟨h3.2.1, ih (listed.setIfInBounds j true) σ' L' (hcl.set hoj hall) hfree' (ready_mono hr (Ne.symm hji)) h3.1 (h3.2.1.resolve_left hnk) ?_⟩) h2
      rw [Array.setIfInBounds_comm _ _ hji]
      exact h3.2.2

/-- An operation that may come up now and yields whatever lies in memory may be taken first. -/
theorem anyS_firstF {ops : Array Oper} {nk : List Nat} {L0 : List Res} {K : Fr → List Res → Prop} {i : Nat} {oi : Oper} {v : Value} (hi : ops[i]? = some oi) (hsel : ∀ (j : Nat) (o : Oper) cs b, ops[j]? = some o → o.op ≠ .select cs b) (hnk : i ∈ nk) :
    ∀ (fuel : Nat) (listed : Array Bool) (σ : Fr) (L : List Res),
      (∀ j oj, ops[j]? = some oj → j ≠ i → listed.getD j true = false → (∀ e ∈ oj.after, Region.binds .any e = true → e.on ≠ i) → oi.apart ops oj = true) →
      i ∈ Region.ready .any ops listed → Yq P w0 D n ops [] oi v σ →
      anyS P w0 D n ops nk L0 K fuel (listed.setIfInBounds i true) (updO σ oi.dst v) L → anyS P w0 D n ops nk L0 K (fuel + 1) listed σ L := by
  intro fuel
  induction fuel with
  | zero =>
    intro listed σ L _ hr hy H
    refine ⟨fun h => (by rw [h] at hr; cases hr), fun j hj => ?_⟩
    by_cases hji : j = i
    · subst hji; exact hy.opS hi .nil ⟨.inl hnk, H⟩
    · have := ready_mono hj hji
      rw [H.1] at this
      cases this
  | succ fuel ih =>
    intro listed σ L hfree hr hy H
    refine ⟨fun h => (by rw [h] at hr; cases hr), fun j hj => ?_⟩
    by_cases hji : j = i
    · subst hji; exact hy.opS hi .nil ⟨.inl hnk, H⟩
    · have h1 := H.2 j (ready_mono hj hji)
      obtain ⟨hjun, oj, hoj, hall⟩ := mem_ready.1 hj
      have hnot : ∀ e ∈ oj.after, Region.binds .any e = true → e.on ≠ i := fun e he hb heq => by
        have h1 := hall e he hb
        have h0 := (mem_ready.1 hr).1
        rw [heq] at h1
        rcases Nat.lt_or_ge i listed.size with h' | h'
        · simp [h'] at h0 h1; rw [h0] at h1; cases h1
        · simp [Array.getElem?_eq_none h'] at h1
      have hff := hfree j oj hoj hji hjun hnot
      have h2 := opS_put hoj hff (fun cs b => hsel i oi cs b hi) (fun cs b => hsel j oj cs b hoj) hy h1
      have hfree' : ∀ k ok, ops[k]? = some ok → k ≠ i → (listed.setIfInBounds j true).getD k true = false →
          (∀ e ∈ ok.after, Region.binds .any e = true → e.on ≠ i) → oi.apart ops ok = true := fun k ok hk hki hun hno => by
        refine hfree k ok hk hki ?_ hno
        by_cases hjk : j = k
        · subst hjk; exact hjun
        · rw [getD_set_ne true hjk] at hun; exact hun
      refine opS_mono (fun σ' L' h3 => ⟨h3.2.1, ih (listed.setIfInBounds j true) σ' L' hfree' (ready_mono hr (Ne.symm hji)) h3.1 ?_⟩) h2
      rw [Array.setIfInBounds_comm _ _ hji]
      exact h3.2.2
theorem anyS_takeF {ops : Array Oper} {nk : List Nat} {L0 : List Res} {K : Fr → List Res → Prop} {i : Nat} {oi : Oper} {v : Value} {fuel : Nat} {listed : Array Bool} (hi : ops[i]? = some oi) (hs : Region.noSelect ops = true) (hf : Region.free .any ops listed i = true) (hk : nk.contains i = true)
    (hr : (Region.ready .any ops listed).contains i = true) (hy : Yq P w0 D n ops [] oi v σ)
    (h : anyS P w0 D n ops nk L0 K fuel (listed.setIfInBounds i true) (updO σ oi.dst v) L) : anyS P w0 D n ops nk L0 K (fuel + 1) listed σ L :=
  anyS_firstF hi (Region.noSelect_spec hs) (by simpa using hk) fuel listed σ L (fun j oj h1 h2 h3 h4 => Region.free_spec hi hf j oj h1 h2 h3 h4) (by simpa using hr) hy h

/-! The moves of a walk -/
/-- each of 'nk' has come up or waits for i -/
def freeK (ops : Array Oper) (listed : Array Bool) (i : Nat) (nk : List Nat) : Bool :=
  closedB ops listed && nk.all fun j => listed.getD j true || depK ops 3 j i
theorem freeK_spec {ops : Array Oper} {listed : Array Bool} {i : Nat} {nk : List Nat} (h : freeK ops listed i nk = true) {j : Nat} (hl : listed.getD j true = false) (hw : depK ops 3 j i = false) : j ∉ nk := fun hm => by
  unfold freeK at h
  rw [Bool.and_eq_true] at h
  have h1 := List.all_eq_true.1 h.2 j hm
  rw [hl, hw] at h1
  cases h1

theorem anyS_take {ops : Array Oper} {nk : List Nat} {L0 : List Res} {K : Fr → List Res → Prop} {i : Nat} {oi : Oper} {v : Value} {fuel : Nat} {listed : Array Bool} (hi : ops[i]? = some oi) (hs : Region.noSelect ops = true) (hf : Region.free .any ops listed i = true) (hk : freeK ops listed i nk = true)
    (hr : (Region.ready .any ops listed).contains i = true) (hy : Yq P w0 D n ops L0 oi v σ) (hL : Ent L L0)
    (h : anyS P w0 D n ops nk L0 K fuel (listed.setIfInBounds i true) (updO σ oi.dst v) L) : anyS P w0 D n ops nk L0 K (fuel + 1) listed σ L :=
  anyS_first 3 hi (Region.noSelect_spec hs) fuel listed σ L (closed_of (by unfold freeK at hk; rw [Bool.and_eq_true] at hk; exact hk.1)) (fun j oj h1 h2 h3 h4 => ⟨Region.free_spec hi hf j oj h1 h2 h3 h4, freeK_spec hk h3⟩) (by simpa using hr) hy hL h

theorem anyS_done {ops : Array Oper} {nk : List Nat} {L0 : List Res} {K : Fr → List Res → Prop} {fuel : Nat} {listed : Array Bool} (hr : Region.ready .any ops listed = []) (h : K σ L) : anyS P w0 D n ops nk L0 K fuel listed σ L := by
  cases fuel with
  | zero => exact ⟨hr, h⟩
  | succ k => exact ⟨fun _ => h, by rw [hr]; simp⟩

theorem opS_0 {ops : Array Oper} {i : Nat} {K : Fr → List Res → Prop} {d : Option Tmp} {op : Op} {ty : TypeId} {pos : String} {af : Array Edge} (hi : ops[i]? = some ⟨d, op, ty, pos, af, none⟩) (hd : okO n d = true)
    (h : OpE P w0 D σ L ⟨d, op, ty, pos, af, none⟩ (fun v L' => K (updO σ d v) L')) : opS P w0 D n ops i K σ L := by
  unfold opS
  simp only [hi]
  exact ⟨hd, h⟩
theorem opS_g {ops : Array Oper} {i : Nat} {K : Fr → List Res → Prop} {d : Option Tmp} {op : Op} {ty : TypeId} {pos : String} {af : Array Edge} {j dj : Nat} {b b' : Bool} {oj : Oper} (hi : ops[i]? = some ⟨d, op, ty, pos, af, some (j, b)⟩) (hd : okO n d = true)
    (hj : ops[j]? = some oj) (hdj : oj.dst = some dj) (hlt : Nat.blt dj n = true) (hb : σ dj = .bool b') (hbb : b' = b)
    (h : OpE P w0 D σ L ⟨d, op, ty, pos, af, some (j, b)⟩ (fun v L' => K (updO σ d v) L')) : opS P w0 D n ops i K σ L := by
  unfold opS
  simp only [hi]
  exact ⟨hd, oj, dj, hj, hdj, hlt, .inl ⟨hbb ▸ hb, h⟩⟩

theorem anyS_all {ops : Array Oper} {nk : List Nat} {L0 : List Res} {K : Fr → List Res → Prop} {rs : List Nat} {fuel : Nat} {listed : Array Bool} (hr : Region.ready .any ops listed = rs) (hne : rs ≠ [])
    (h : ∀ i ∈ rs, opS P w0 D n ops i (fun σ' L' => (i ∈ nk ∨ Ent L' L0) ∧ anyS P w0 D n ops nk L0 K fuel (listed.setIfInBounds i true) σ' L') σ L) : anyS P w0 D n ops nk L0 K (fuel + 1) listed σ L :=
  ⟨fun h0 => absurd (hr ▸ h0) hne, hr ▸ h⟩
end
end Go.Proofs.Ytldkjjnjdjfipaa
