/- Ranges over functions: what an iterator is, the statement, calls of yield. It states nothing of the program. -/
import Derived.Test.YtldkjjnjdjfipaaMk
namespace Go.Proofs.Ytldkjjnjdjfipaa
open Go Go.RowKit
set_option linter.unusedVariables false
set_option linter.unusedSimpArgs false

section
variable {P : Program} {w0 : World} {D : List Nat} {n : Nat} {r : Option Nat} {ds : List Nat} {σ : Fr} {L M : List Res}

theorem SH.self {w : World} (h : SH w0 D L w) : SH w (L.flatMap Res.fp) L w :=
  ⟨rfl, rfl, rfl, Nat.le_refl _, fun _ _ _ => rfl, h.ok, fun p hp b hb => ⟨.inr (List.mem_flatMap.2 ⟨p, hp, hb⟩), (h.own p hp b hb).2⟩, h.disj⟩
theorem SH.put {w : World} {b : Nat} {o o' : Obj} (h : SH w0 D (blk b o :: L) w) : SH w0 D (blk b o' :: L) (w.putObj b o') := by
  have hr := h.own (blk b o) (by simp) b (by simp [blk])
  have hd := List.pairwise_cons.1 h.disj
  have hne : ∀ k, k ≠ b → (w.putObj b o').heap[k]? = w.heap[k]? := fun k hk => World.putObj_heap_other hk
  have hsz : (w.putObj b o').heap.size = w.heap.size := World.putObj_size
  refine ⟨h.os, h.tape, h.output, by rw [hsz]; exact h.size, ?_, ?_, ?_, List.pairwise_cons.2 ⟨fun q hq c hc => hd.1 q hq c hc, hd.2⟩⟩
  · intro k hk hkD
    rw [hne k (fun e => ?_), h.old k hk hkD]
    subst e
    rcases hr.1 with h1 | h1
    · omega
    · exact hkD h1
  · intro p hp0
    rcases List.mem_cons.1 hp0 with rfl | hp
    · exact World.putObj_heap_same hr.2
    · clear hp0
      refine p.loc w _ (fun c hc => hne c (fun e => ?_)) (h.ok p (List.mem_cons_of_mem _ hp))
      subst e
      exact hd.1 p hp c (by simp [blk]) hc
  · intro p hp c hc
    rw [hsz]
    rcases List.mem_cons.1 hp with rfl | hp
    · simp [blk] at hc; subst hc; exact hr
    · exact h.own p (List.mem_cons_of_mem _ hp) c hc

/-- the value 'yv', called with 'args' in the world w, ends so -/
inductive CallV (P : Program) : Value → Array Value → World → (Ending → World → Prop) → Prop
  | f {f : Nat} {cap args : Array Value} {w : World} {R : Ending → World → Prop} (hc : ∀ args w, (callFunc f args).run P w = .ok (.enter f args) w) (h : Calls P f (args ++ cap) w R) : CallV P (.func (.func f) #[] cap) args w R
  | y {l : Nat} {args : Array Value} {w : World} {R : Ending → World → Prop} {g : Nat} {tmps : Array Value} {assign body : Code} (hy : (Instr.yield l args).run P w = .ok (.round l g tmps assign body) w)
      (h : RoundIn (FW none) 0 P l g tmps assign body w R) : CallV P (.func (.yield l) #[] #[]) args w R

def IsYv (yv : Value) : Prop := (∃ f cap, yv = .func (.func f) #[] cap) ∨ ∃ l, yv = .func (.yield l) #[] #[]

/-- What is told to 'yv', one by one: I goes on, or E ends it. -/
def YieldC (P : Program) (wb : World) (Db : List Nat) (yv : Value) (enc : Nat → Array Value) (N : Nat) (I E : Nat → List Res → Prop) : Prop :=
  IsYv yv ∧ ∀ k A, k < N → I k A → ∀ w, SH wb Db A w →
    CallV P yv (enc k) w (fun e w' => ∃ b A', e = .returned (.bool b) ∧ SH w (A.flatMap Res.fp) A' w' ∧ (match b with | true => I (k + 1) A' | false => E k A'))

/-- Function f, with those captures, tells enc 0 .. enc (N - 1) in the world w: it reads the blocks rd. -/
def Iter (P : Program) (f : Nat) (cap : Array Value) (enc : Nat → Array Value) (N : Nat) (rd : Nat → Prop) (w : World) : Prop :=
  ∀ (yv : Value) (I E : Nat → List Res → Prop) (A : List Res), (∀ b, rd b → b ∉ A.flatMap Res.fp) → I 0 A → SH w (A.flatMap Res.fp) A w → YieldC P w (A.flatMap Res.fp) yv enc N I E →
    Calls P f (#[yv] ++ cap) w (fun e w' => e = .returned (.tuple #[]) ∧ ∃ A', SH w (A.flatMap Res.fp) A' w' ∧ (I N A' ∨ ∃ k, k < N ∧ E k A'))

/-! ### Frames of rounds -/
def updZ (σ : Fr) (ps : Array Nat) (vs : Array Value) : Fr := (ps.toList.zip vs.toList).foldl (fun σ x => upd σ x.1 x.2) σ
theorem updZ_1 (σ : Fr) (p : Nat) (v : Value) : updZ σ #[p] #[v] = upd σ p v := rfl
theorem updZ_2 (σ : Fr) (p q : Nat) (v u : Value) : updZ σ #[p, q] #[v, u] = upd (upd σ p v) q u := rfl
theorem updZ_0 (σ : Fr) : updZ σ #[] #[] = σ := rfl
theorem FrOK.zipL {ds' : List Nat} : ∀ (l : List (Nat × Value)) (σ : Fr) (t : Array Value), (∀ x ∈ l, Nat.blt x.1 n = true) → FrOK n ds' σ { tmps := t, defers := ds'.map mkD } →
    FrOK n ds' (l.foldl (fun σ x => upd σ x.1 x.2) σ) { tmps := l.foldl (fun t x => t.setIfInBounds x.1 x.2) t, defers := ds'.map mkD }
  | [], _, _, _, h => h
  | (p, v) :: l, σ, t, hl, h => FrOK.zipL l (upd σ p v) (t.setIfInBounds p v) (fun x hx => hl x (List.mem_cons_of_mem _ hx)) (by
      have := h.put (hl (p, v) List.mem_cons_self) v
      exact ⟨rfl, this.size, this.get⟩)
theorem FrOK.zip {a : Act} (h : FrOK n ds σ a) {ps : Array Nat} (vs : Array Value) (hps : ps.all (fun p => Nat.blt p n) = true) :
    FrOK n [] (updZ σ ps vs) { tmps := (ps.zip vs).foldl (fun t (x : Nat × Value) => t.setIfInBounds x.1 x.2) a.tmps, defers := [] } := by
  have h1 := FrOK.zipL (n := n) (ds' := []) (ps.zip vs).toList σ a.tmps (fun x hx => by
    have hx' : x ∈ ps.zip vs := Array.mem_toList_iff.1 hx
    have hm : x.1 ∈ ps := by
      obtain ⟨i, hi, e⟩ := Array.mem_iff_getElem.1 hx'
      rw [Array.getElem_zip] at e
      rw [← e]
      exact Array.getElem_mem _
    exact (Array.all_eq_true_iff_forall_mem.1 hps) x.1 hm) ⟨rfl, h.size, h.get⟩
  rw [← Array.foldl_toList]
  unfold updZ
  rw [← Array.toList_zip]
  exact h1

/-- behind the assignments to the loop's left sides -/
def asgS (K : Fr → List Res → Prop) : Post
  | .normal, ds, σ, L => ds = [] ∧ K σ L
  | _, _, _, _ => False
/-- at a round's end -/
def rndS (I : Nat → List Res → Prop) (E : Nat → Exit → List Res → Prop) (k : Nat) : Post
  | .normal, _, _, L => ∃ A', Ent L A' ∧ I (k + 1) A'
  | .exit id, _, _, L => ∃ A', Ent L A' ∧ E k (.exit id) A'
  | .ret, _, _, L => ∃ A', Ent L A' ∧ E k .ret A'
  | .goto _, _, _, _ => False
  | .panic _, _, _, _ => False
  | .outgrown, _, _, _ => False

theorem asg_n {K : Fr → List Res → Prop} (h : K σ L) : asgS K .normal [] σ L := ⟨rfl, h⟩
theorem rnd_n {I : Nat → List Res → Prop} {E : Nat → Exit → List Res → Prop} {k : Nat} (h : ∃ A', Ent L A' ∧ I (k + 1) A') : rndS I E k .normal ds σ L := h
theorem rnd_x {I : Nat → List Res → Prop} {E : Nat → Exit → List Res → Prop} {k id : Nat} (h : ∃ A', Ent L A' ∧ E k (.exit id) A') : rndS I E k (.exit id) ds σ L := h
theorem rnd_r {I : Nat → List Res → Prop} {E : Nat → Exit → List Res → Prop} {k : Nat} (h : ∃ A', Ent L A' ∧ E k .ret A') : rndS I E k .ret ds σ L := h
def jcode : Exit → Option Code
  | .exit id => some (.exit id)
  | .ret => some .ret
  | _ => none

/-- **The statement.** A is lent to the rounds; M is not touched. -/
theorem wpS_rangeFunc {g : Operand} {ps : Array Tmp} {assign body : Code} {f : Nat} {cap : Array Value} {enc : Nat → Array Value} {N : Nat} {rd : Nat → Prop} {A : List Res} {Q : Post}
    (I : Nat → List Res → Prop) (E : Nat → Exit → List Res → Prop)
    (hg : ev σ g = .func (.func f) #[] cap) (hc : ∀ args w, (callFunc f args).run P w = .ok (.enter f args) w) (hps : ps.all (fun p => Nat.blt p n) = true) (hsz : ∀ k, (enc k).size = ps.size)
    (hE : Ent L (A ++ M)) (hI : I 0 A)
    (hit : ∀ w, SH w0 D (A ++ M) w → Iter P f cap enc N rd w) (hrd : ∀ w, SH w0 D (A ++ M) w → ∀ b, rd b → b < w.heap.size ∧ b ∉ A.flatMap Res.fp)
    (hround : ∀ k A', k < N → I k A' → ∀ w l, SH w0 D (A' ++ M) w →
      wpS P w (A'.flatMap Res.fp) n (some l) assign (asgS fun σ' L' => ∀ w', SH w0 D (L' ++ M) w' → wpS P w' (L'.flatMap Res.fp) n (some l) body (rndS I E k) [] σ' L') [] (updZ σ ps (enc k)) A')
    (hdone : ∀ d A', I N A' → Q .normal (d :: ds) σ (dfr d :: (A' ++ M)))
    (hexit : ∀ d k e A', k < N → E k e A' → Q e (d :: ds) σ (dfr d :: (A' ++ M))) :
    wpS P w0 D n none (.rangeFunc g ps assign body) Q ds σ L := by
  intro a w hf hs
  replace hs := hs.ent hE
  refine wpIn_rangeFunc ?_
  intro fn _
  obtain ⟨rec, hrec⟩ : ∃ rec : LoopState → Option Code → Loop, rec = fun st pe => { state := st, pending := pe, fn, tmps := a.tmps, params := ps, assign, body, defers := w.heap.size } := ⟨_, rfl⟩
  have hpar : ∀ s p, (rec s p).params = ps := fun s p => by rw [hrec]
  obtain ⟨l, hl⟩ : ∃ l, l = w.heap.size + 1 := ⟨_, rfl⟩
  obtain ⟨lr, hlr⟩ : ∃ lr : LoopState → Option Code → Res, lr = fun s p => blk l (.loop (rec s p)) := ⟨_, rfl⟩
  have h1 : SH w0 D (dfr w.heap.size :: (A ++ M)) (w.alloc (.deferred (some []))) := hs.frame0 (SH.new w _)
  have h2 : SH w0 D (lr .ready none :: (dfr w.heap.size :: (A ++ M))) ((w.alloc (.deferred (some []))).alloc (.loop (rec .ready none))) := by
    have := h1.frame0 (SH.new (w.alloc (.deferred (some []))) (.loop (rec .ready none)))
    rw [hlr, hl]
    simpa using this
  obtain ⟨W1, hW1⟩ : ∃ W1, (w.alloc (.deferred (some []))).alloc (.loop (rec .ready none)) = W1 := ⟨_, rfl⟩
  rw [hW1] at h2
  have h3 : SH w0 D ((lr .ready none :: A) ++ (dfr w.heap.size :: M)) W1 := h2.perm (List.Perm.cons _ (List.perm_middle.symm))
  have e1 : (Instr.enterLoop fn a.tmps ps assign body (FW none).round).run P w = .ok (l, [mkD w.heap.size]) W1 := by
    rw [← hW1, hrec, hl]; exact run_enterLoop_outer _ _ _ _ _
  have hg' : a.eval g = .func (.func f) #[] cap := (hf.ev g).trans hg
  refine ⟨l, [mkD w.heap.size], W1, { target := .fn (.func f) cap, args := #[.func (.yield l) #[] #[]] }, W1, f, #[.func (.yield l) #[] #[]] ++ cap, W1, e1, ?_, fun _ _ => trivial, ?_, fun h => by simp [FW] at h, ?_⟩
  · simp only [resolve, hg']
    simp [go_sem]
  · simp [invoke, go_sem, hc]
  refine (callsIn_wide (n := 0 - 1)).2 ?_
  -- what is asked of yield
  have hb : ∀ b, rd b → b ∉ (lr .ready none :: A).flatMap Res.fp := fun b hb hm => by
    have := hrd w hs b hb
    rw [List.flatMap_cons, List.mem_append] at hm
    rcases hm with hm | hm
    · rw [hlr] at hm; simp [blk] at hm; omega
    · exact this.2 hm
  have hbase : ∀ {A2 : List Res} {w2 : World}, SH W1 ((lr .ready none :: A).flatMap Res.fp) A2 w2 → SH w0 D (A2 ++ (dfr w.heap.size :: M)) w2 := fun h => h3.frame h
  have dropD : ∀ {A2 : List Res} {w2 : World}, SH w0 D (A2 ++ (dfr w.heap.size :: M)) w2 → SH w0 D (A2 ++ M) w2 := fun h => (h.perm List.perm_middle).drop
  have hget : ∀ {D2 : List Nat} {wb w2 : World} {s : LoopState} {p : Option Code} {T : List Res}, SH wb D2 (lr s p :: T) w2 → w2.heap[l]? = some (.loop (rec s p)) := fun h => by
    have := h.ok _ List.mem_cons_self
    rw [hlr] at this
    exact this
  have hput : ∀ {D2 : List Nat} {wb w2 : World} {s s' : LoopState} {p p' : Option Code} {T : List Res}, SH wb D2 (lr s p :: T) w2 → SH wb D2 (lr s' p' :: T) (w2.putObj l (.loop (rec s' p'))) := fun h => by
    rw [hlr] at h ⊢
    exact h.put
  have hY : YieldC P W1 ((lr .ready none :: A).flatMap Res.fp) (.func (.yield l) #[] #[]) enc N (fun k L => ∃ A', L = lr .ready none :: A' ∧ I k A')
      (fun k L => ∃ e c A', L = lr .done (some c) :: A' ∧ E k e A' ∧ jcode e = some c) := by
    refine ⟨.inr ⟨l, rfl⟩, ?_⟩
    rintro k A2 hx ⟨A', rfl, hI'⟩ wy hy
    have hy0 := hbase hy
    have hys := hy.self
    have hyl := hget hy
    refine .y (run_yield (P := P) (args := enc k) hyl (by rw [hpar]; exact hsz k)) (roundIn_of_wpIn (F := FW none) trivial ?_)
    have hfr : FrOK n [] (updZ σ ps (enc k)) { tmps := ((rec .ready none).params.zip (enc k)).foldl (fun t (x : Nat × Value) => t.setIfInBounds x.1 x.2) (rec .ready none).tmps, defers := [] } := by
      rw [hrec]; exact hf.zip (enc k) hps
    have has : (rec .ready none).assign = assign := by rw [hrec]
    have hbo : (rec .ready none).body = body := by rw [hrec]
    rw [has, hbo]
    have hsA : SH wy (A'.flatMap Res.fp) A' wy := hys.drop.self
    refine wpIn_mono (hround k A' hx hI' wy l (dropD (SH.drop (p := lr .ready none) hy0)) _ wy hfr hsA) ?_
    intro e a1 wa ⟨ds1, σ1, L1, hf1, hs1, hq1⟩
    cases e <;> try exact hq1.elim
    obtain ⟨rfl, hK⟩ := hq1
    -- the chain at both bases
    have f1 : SH wy ((lr .ready none :: A').flatMap Res.fp) (L1 ++ [lr .ready none]) wa := SH.frame (A := A') ((show SH wy _ ([lr .ready none] ++ A') wy from hys).perm List.perm_append_comm) hs1
    have f2 : SH w0 D (L1 ++ (lr .ready none :: (dfr w.heap.size :: M))) wa := SH.frame (A := A') ((show SH w0 D (lr .ready none :: (A' ++ (dfr w.heap.size :: M))) wy from hy0).perm List.perm_middle.symm) hs1
    have f1' : SH wy ((lr .ready none :: A').flatMap Res.fp) (lr .ready none :: L1) wa := f1.perm List.perm_append_comm
    have f2' : SH w0 D (lr .ready none :: (L1 ++ (dfr w.heap.size :: M))) wa := f2.perm List.perm_middle
    have gl := hget f1'
    refine ⟨_, run_beginRound gl (by rw [hrec]), ?_⟩
    have ebusy : ({ rec .ready none with state := .busy } : Loop) = rec .busy none := by rw [hrec]
    rw [ebusy]
    have b1 := hput (s' := .busy) (p' := none) f1'
    have b2 := hput (s' := .busy) (p' := none) f2'
    have b3 : SH w0 D (L1 ++ M) (wa.putObj l (.loop (rec .busy none))) := dropD b2.drop
    have hsB : SH (wa.putObj l (.loop (rec .busy none))) (L1.flatMap Res.fp) L1 (wa.putObj l (.loop (rec .busy none))) := b1.drop.self
    refine wpIn_mono (hK _ b3 a1 _ hf1 hsB) ?_
    have fin : ∀ (jump : Option Code) (A3 : List Res) (wc : World), SH (wa.putObj l (.loop (rec .busy none))) (L1.flatMap Res.fp) A3 wc →
        (Instr.endRound l jump).run P wc = .ok (.bool jump.isNone) (wc.putObj l (.loop (rec (if jump.isNone then .ready else .done) jump))) ∧
        SH wy ((lr .ready none :: A').flatMap Res.fp) (lr (if jump.isNone then .ready else .done) jump :: A3) (wc.putObj l (.loop (rec (if jump.isNone then .ready else .done) jump))) := fun jump A3 wc h => by
      have c1 : SH wy ((lr .ready none :: A').flatMap Res.fp) (A3 ++ [lr .busy none]) wc := SH.frame (A := L1) (b1.perm (List.perm_append_comm (l₁ := [lr .busy none]))) h
      have c2 : SH wy ((lr .ready none :: A').flatMap Res.fp) (lr .busy none :: A3) wc := c1.perm List.perm_append_comm
      have := run_endRound (P := P) jump (hget c2)
      have ee : ({ rec .busy none with state := if jump.isNone then .ready else .done, pending := jump } : Loop) = rec (if jump.isNone then .ready else .done) jump := by rw [hrec]
      rw [ee] at this
      exact ⟨this, hput c2⟩
    intro e2 a2 wc ⟨ds2, σ2, L2, hf2, hs2, hq2⟩
    cases e2 with
    | normal =>
      obtain ⟨A3, hent, hi⟩ := hq2
      obtain ⟨g1, g2⟩ := fin none A3 wc (hs2.ent hent)
      exact ⟨_, _, g1, true, _, rfl, g2, A3, rfl, hi⟩
    | ret =>
      obtain ⟨A3, hent, hi⟩ := hq2
      obtain ⟨g1, g2⟩ := fin (some .ret) A3 wc (hs2.ent hent)
      exact ⟨_, _, g1, false, _, rfl, g2, .ret, .ret, A3, rfl, hi, rfl⟩
    | exit id =>
      obtain ⟨A3, hent, hi⟩ := hq2
      obtain ⟨g1, g2⟩ := fin (some (.exit id)) A3 wc (hs2.ent hent)
      exact ⟨_, _, g1, false, _, rfl, g2, .exit id, .exit id, A3, rfl, hi, rfl⟩
    | goto t => exact hq2.elim
    | panic c => exact hq2.elim
    | outgrown => exact hq2.elim
  have hcall := hit W1 (h2.drop.drop) (.func (.yield l) #[] #[]) _ _ (lr .ready none :: A) hb ⟨A, rfl, hI⟩ (SH.dropAll _ (h3.perm List.perm_append_comm)).self hY
  refine hcall.mono ?_
  rintro e w3 ⟨rfl, A3, hs3, hor⟩
  have hact : FrOK n (w.heap.size :: ds) σ { a with defers := [mkD w.heap.size] ++ a.defers } := ⟨by simp [hf.defers], hf.size, hf.get⟩
  rcases hor with ⟨A', rfl, hi⟩ | ⟨k, hk, e, c, A', rfl, hE', hj⟩
  · have c1 : SH w0 D (lr .ready none :: (A' ++ (dfr w.heap.size :: M))) w3 := hbase hs3
    have c2 := hput (s' := .exhausted) (p' := none) c1
    have hrun := run_endLoop (P := P) (hget c1) (by rw [hrec]; simp)
    have ee : ({ rec .ready none with state := .exhausted } : Loop) = rec .exhausted none := by rw [hrec]
    have ep : (rec .ready none).pending = none := by rw [hrec]
    rw [ee, ep] at hrun
    refine ⟨_, _, hrun, ?_⟩
    exact ⟨_, _, _, hact, c2.drop.perm List.perm_middle, hdone w.heap.size A' hi⟩
  · have c1 : SH w0 D (lr .done (some c) :: (A' ++ (dfr w.heap.size :: M))) w3 := hbase hs3
    have c2 := hput (s' := .exhausted) (p' := some c) c1
    have hrun := run_endLoop (P := P) (hget c1) (by rw [hrec]; simp)
    have ee : ({ rec .done (some c) with state := .exhausted } : Loop) = rec .exhausted (some c) := by rw [hrec]
    have ep : (rec .done (some c)).pending = some c := by rw [hrec]
    rw [ee, ep] at hrun
    refine ⟨_, _, hrun, ?_⟩
    have hq : toQ w0 D n Q e { a with defers := [mkD w.heap.size] ++ a.defers } (w3.putObj l (.loop (rec .exhausted (some c)))) := ⟨_, _, _, hact, c2.drop.perm List.perm_middle, hexit w.heap.size k e A' hk hE'⟩
    cases e <;> simp only [jcode] at hj <;> try cases hj
    · exact wpIn_exit hq
    · exact wpIn_ret hq

/-! ### Calls of yield, and of an iterator -/
theorem run_callV {z : Operand} {as : Array Operand} {ts : Array TypeId} {args : Array Value} {yv : Value} {d : Option Tmp} {ty : TypeId} {pos : String} {af : Array Edge} {g : Option (Nat × Bool)} {w : World} {R : Ending → World → Prop} {K : Value → List Res → Prop}
    (hz : ev σ z = yv) (ha : as.map (ev σ) = args) (hcv : CallV P yv args w R) (hR : ∀ e w', R e w' → ∃ v L', e = .returned v ∧ SH w0 D L' w' ∧ K v L') :
    (∃ f as', (execOp (ev σ) ⟨d, .call { callee := .value z, args := as, argTypes := ts }, ty, pos, af, g⟩).run P w = .ok (.enter f as') w ∧ Calls P f as' w (fun e w' => ∃ v L', e = .returned v ∧ SH w0 D L' w' ∧ K v L')) ∨
    (∃ l f tmps assign body, (execOp (ev σ) ⟨d, .call { callee := .value z, args := as, argTypes := ts }, ty, pos, af, g⟩).run P w = .ok (.round l f tmps assign body) w ∧ RoundIn (FW none) 0 P l f tmps assign body w (fun e w' => ∃ v L', e = .returned v ∧ SH w0 D L' w' ∧ K v L')) := by
  subst ha
  cases hcv with
  | @f f cap _ _ _ hc h =>
    refine .inl ⟨f, as.map (ev σ) ++ cap, ?_, h.mono hR⟩
    simp [execOp, resolve, Deferred.ofValue, invoke, hz, hc]
  | @y l _ _ _ g' tmps assign body hy h =>
    refine .inr ⟨l, g', tmps, assign, body, ?_, h.mono hR⟩
    simp [execOp, resolve, Deferred.ofValue, invoke, hz, hy]

theorem y_nilY {x : Operand} {yv : Value} (hx : ev σ x = yv) (h : IsYv yv) : OpR P w0 D σ L (.nilCheck x) yv :=
  .mk (by simp) fun d ty pos af g w _ => by
    rcases h with ⟨f, cap, rfl⟩ | ⟨l, rfl⟩ <;> simp [execOp, hx]

/-- yield is called: what is lent to it is A; 'own' are resources of the caller -/
theorem e_yield {z : Operand} {as : Array Operand} {ts : Array TypeId} {enc : Nat → Array Value} {N k : Nat} {yv : Value} {own A : List Res} {I E : Nat → List Res → Prop} {K : Value → List Res → Prop} {d : Option Tmp} {ty : TypeId} {pos : String} {af : Array Edge} {g : Option (Nat × Bool)}
    (hY : YieldC P w0 D yv enc N I E) (hz : ev σ z = yv) (ha : as.map (ev σ) = enc k) (hk : k < N) (hI : I k A)
    (hK1 : ∀ A', I (k + 1) A' → K (.bool true) (own ++ A')) (hK2 : ∀ A', E k A' → K (.bool false) (own ++ A')) :
    OpE P w0 D σ (own ++ A) ⟨d, .call { callee := .value z, args := as, argTypes := ts }, ty, pos, af, g⟩ K := ⟨by simp, fun w hw => by
  have hs : SH w0 D (A ++ own) w := hw.perm List.perm_append_comm
  have hsA : SH w0 D A w := SH.dropAll own hw
  have := run_callV (w0 := w0) (D := D) (K := K) (ts := ts) (d := d) (ty := ty) (pos := pos) (af := af) (g := g) hz ha (hY.2 k A hk hI w hsA) (fun e w' ⟨b, A', he, h2, h3⟩ => by
    refine ⟨.bool b, own ++ A', he, (hs.frame h2).perm List.perm_append_comm, ?_⟩
    cases b with
    | true => exact hK1 A' h3
    | false => exact hK2 A' h3)
  exact .inr (.inr this)⟩

/-- an iterator is called with a function of one's own -/
theorem e_iter {z : Operand} {as : Array Operand} {ts : Array TypeId} {f : Nat} {cap : Array Value} {enc : Nat → Array Value} {N : Nat} {rd : Nat → Prop} {yv : Value} {A : List Res} {K : Value → List Res → Prop} {d : Option Tmp} {ty : TypeId} {pos : String} {af : Array Edge} {g : Option (Nat × Bool)}
    (I E : Nat → List Res → Prop) (hc : ∀ args w, (callFunc f args).run P w = .ok (.enter f args) w) (hz : ev σ z = .func (.func f) #[] cap) (ha : as.map (ev σ) = #[yv]) (hL : Ent L (A ++ M)) (hI : I 0 A)
    (hit : ∀ w, SH w0 D (A ++ M) w → Iter P f cap enc N rd w) (hrd : ∀ w, SH w0 D (A ++ M) w → ∀ b, rd b → b ∉ A.flatMap Res.fp) (hyv : IsYv yv)
    (hY : ∀ w0' k A', k < N → I k A' → ∀ w, SH w0' (A.flatMap Res.fp) A' w → SH w0 D (A' ++ M) w → CallV P yv (enc k) w (fun e w' => ∃ b A'', e = .returned (.bool b) ∧ SH w (A'.flatMap Res.fp) A'' w' ∧ (match b with | true => I (k + 1) A'' | false => E k A'')))
    (hK1 : ∀ A', I N A' → K (.tuple #[]) (A' ++ M)) (hK2 : ∀ k A', k < N → E k A' → K (.tuple #[]) (A' ++ M)) :
    OpE P w0 D σ L ⟨d, .call { callee := .value z, args := as, argTypes := ts }, ty, pos, af, g⟩ K := ⟨by simp, fun w hw => .inr (.inr (.inl (by
  have hs := hw.ent hL
  have hsA : SH w (A.flatMap Res.fp) A w := (SH.dropAll M (hs.perm List.perm_append_comm)).self
  have hcall := hit w hs yv I E A (hrd w hs) hI hsA ⟨hyv, fun k A' hk hI' w1 hs1 => hY w k A' hk hI' w1 hs1 (hs.frame hs1)⟩
  refine ⟨f, #[yv] ++ cap, ?_, hcall.mono ?_⟩
  · simp [execOp, resolve, Deferred.ofValue, invoke, hz, hc, ha]
  · rintro e w' ⟨rfl, A', h2, h3⟩
    refine ⟨_, A' ++ M, rfl, hs.frame h2, ?_⟩
    rcases h3 with h3 | ⟨k, hk, h3⟩
    · exact hK1 A' h3
    · exact hK2 k A' hk h3)))⟩

/-! ### reading within rounds -/
theorem rdIn {w : World} {A' : List Res} {a : Option Addr} {l : List Value} (h : SH w0 D (A' ++ M) w) (hr : Rds w a l) (hb : 0 < l.length → aB a < w0.heap.size ∧ aB a ∉ D) (L' : List Res) : ∀ w', SH w (A'.flatMap Res.fp) L' w' → Rds w' a l := fun w' hs => by
  by_cases hl : 0 < l.length
  · refine oldRD hr (fun hm => ?_) w' hs
    obtain ⟨p, hp, hb'⟩ := List.mem_flatMap.1 hm
    have h1 := hb hl
    rcases (h.own p (List.mem_append_left _ hp) _ hb').1 with h2 | h2
    · omega
    · exact h1.2 h2
  · obtain rfl : l = [] := List.eq_nil_of_length_eq_zero (by omega)
    exact Rds.nil _ _
theorem rdBlk {w : World} {a : Option Addr} {l : List Value} (h : Rds w a l) (hl : 0 < l.length) : aB a < w.heap.size := World.block_lt_of_cell? w ⟨aB a, aO a + 0, none⟩ (h 0 l[0] (by simp [hl])).2

/-- .. in w and whatever comes of it -/
def IterAt (P : Program) (f : Nat) (cap : Array Value) (enc : Nat → Array Value) (N : Nat) (rd : Nat → Prop) (w : World) : Prop :=
  (∀ w', SH w [] [] w' → Iter P f cap enc N rd w') ∧ ∀ b, rd b → b < w.heap.size
theorem SH.toNil {w : World} (h : SH w0 [] L w) : SH w0 [] [] w := SH.dropAll (L := []) L (by rw [List.append_nil]; exact h)
theorem SH.trans0 {w1 w2 : World} (h : SH w0 [] [] w1) (h2 : SH w1 [] [] w2) : SH w0 [] [] w2 := h.frame0 h2
theorem IterAt.mono {f : Nat} {cap : Array Value} {enc : Nat → Array Value} {N : Nat} {rd : Nat → Prop} {w : World} (h : IterAt P f cap enc N rd w0) (hs : SH w0 [] L w) : IterAt P f cap enc N rd w :=
  ⟨fun w' hs' => h.1 w' (hs.toNil.trans0 hs'), fun b hb => Nat.lt_of_lt_of_le (h.2 b hb) hs.size⟩
theorem IterAt.it {f : Nat} {cap : Array Value} {enc : Nat → Array Value} {N : Nat} {rd : Nat → Prop} {w : World} (h : IterAt P f cap enc N rd w) : Iter P f cap enc N rd w := h.1 w (SH.start w)
/-- what was there ahead of the call is none of its new blocks -/
theorem apNew {w : World} {A : List Res} (h : SH w0 [] (A ++ M) w) {b : Nat} (hb : b < w0.heap.size) : b < w.heap.size ∧ b ∉ A.flatMap Res.fp :=
  ⟨Nat.lt_of_lt_of_le hb h.size, fun hm => by
    obtain ⟨p, hp, hb'⟩ := List.mem_flatMap.1 hm
    rcases (h.own p (List.mem_append_left _ hp) _ hb').1 with h2 | h2
    · omega
    · cases h2⟩
theorem apOld {w : World} {A : List Res} (h : SH w0 D (A ++ M) w) {b : Nat} (hb : b < w0.heap.size) (hD : b ∉ D) : b < w.heap.size ∧ b ∉ A.flatMap Res.fp :=
  ⟨Nat.lt_of_lt_of_le hb h.size, fun hm => by
    obtain ⟨p, hp, hb'⟩ := List.mem_flatMap.1 hm
    rcases (h.own p (List.mem_append_left _ hp) _ hb').1 with h2 | h2
    · omega
    · exact hD h2⟩
/-- what another resource holds is apart from what is lent -/
theorem apM {w : World} {A M' : List Res} {q : Res} (h : SH w0 D (A ++ M) w) (hp : Pick M q M') {b : Nat} (hb : b ∈ q.fp) : b < w.heap.size ∧ b ∉ A.flatMap Res.fp := by
  have hq : q ∈ M := hp.perm.mem_iff.2 List.mem_cons_self
  refine ⟨(h.own q (List.mem_append_right _ hq) b hb).2, fun hm => ?_⟩
  obtain ⟨p, hp', hb'⟩ := List.mem_flatMap.1 hm
  exact (List.pairwise_append.1 h.disj).2.2 p hp' q hq b hb' hb
theorem osl_blk {a : Option Addr} {cap m sz : Nat} {t : TypeId} {l : List Value} {w : World} (h : (osl a cap m sz t l).ok w) (hl : 0 < l.length) : aB a ∈ (osl a cap m sz t l).fp := by
  rcases h.2 with ⟨hv, hn⟩ | ⟨g, cap', cur, hv, hb, hg, hle, hm, hs, ht⟩
  · have := h.1; rw [hn, Nat.zero_mul] at this; omega
  · injection hv with e1 e2 e3
    subst e1
    simp [osl, Value.ownBlock, aB]
theorem cell_old {w : World} {b o : Nat} {v : Value} (h : w0.cell? ⟨b, o, none⟩ = some v) (hs : SH w0 [] [] w) : w.cell? ⟨b, o, none⟩ = some v := old1 h (by simp) w hs
theorem cell_lt {w : World} {b o : Nat} {v : Value} (h : w.cell? ⟨b, o, none⟩ = some v) : b < w.heap.size := World.block_lt_of_cell? w ⟨b, o, none⟩ h

theorem run_equalIn_fn_nil (w : World) (d : Nat) (t : TypeId) {f : Fn} {a b : Array Value} {ps rs : Array TypeId} {v : Bool} (h : P.underlying t = some (.func ps rs v)) : (Op.equalIn (d + 1) t (.func f a b) .nilFunc).run P w = .ok false w := by
  simp [Op.equalIn, run_underlying h]
theorem run_equal_fn_nil (w : World) (t : TypeId) {f : Fn} {a b : Array Value} {ps rs : Array TypeId} {v : Bool} (h : P.underlying t = some (.func ps rs v)) : (Op.equal t (.func f a b) .nilFunc).run P w = .ok false w := run_equalIn_fn_nil w 9999 t h
theorem y_fnNil {t t2 : TypeId} {x y : Operand} {f : Fn} {a b : Array Value} {ps rs : Array TypeId} {v : Bool} (hx : ev σ x = .func f a b) (hy : ev σ y = .nilFunc) (ht : P.underlying t = some (.func ps rs v)) (hg : P.eqGuardType P.depth t = false) : OpR P w0 D σ L (.binOp .eql t x y t2) (.bool false) :=
  .mk (by simp) fun d ty pos af g w _ => by simp [execOp, hx, hy, eqGuard, binOp, run_equal_fn_nil w t ht, hg]
theorem rvC1 {w : World} {a : Tmp} {t : TypeId} {b o : Nat} {v : Value} (hx : σ a = .pointer (some ⟨b, o, none⟩)) (ha : ∀ w, (isAgg t).run P w = .ok false w) (h : ∀ w', SH w D M w' → w'.cell? ⟨b, o, none⟩ = some v) :
    ∀ w', SH w D M w' → (evRV σ (.cell a t)).run P w' = .ok v w' := fun w' hs => by simp [evRV, hx, asAddr, loadVar, ha, h w' hs]

theorem zq_quo {a : Int} {m : Nat} (h0 : 0 ≤ a) (ha : a < 9223372036854775808) : IntKind.i64.wrap (a.tdiv (m : Int)) = ((a.toNat / m : Nat) : Int) := by
  obtain ⟨n, rfl⟩ := Int.eq_ofNat_of_zero_le h0
  rw [Int.toNat_natCast]
  have h2 : n / m ≤ n := Nat.div_le_self _ _
  have e : (n : Int).tdiv (m : Int) = ((n / m : Nat) : Int) := by rw [Int.ofNat_tdiv]
  generalize n / m = c at *
  exact wI e (by omega) (by omega)
theorem zq_rem {a : Int} {m : Nat} (h0 : 0 ≤ a) (ha : a < 9223372036854775808) : a.tmod (m : Int) = ((a.toNat % m : Nat) : Int) := by
  obtain ⟨n, rfl⟩ := Int.eq_ofNat_of_zero_le h0
  rw [Int.toNat_natCast, Int.ofNat_tmod]
theorem oldRD' {a : Option Addr} {l : List Value} (h : Rds w0 a l) (hD : 0 < l.length → aB a ∉ D) : ∀ w, SH w0 D L w → Rds w a l := fun w hs => by
  by_cases hl : 0 < l.length
  · exact oldRD h (hD hl) w hs
  · obtain rfl : l = [] := List.eq_nil_of_length_eq_zero (by omega)
    exact Rds.nil _ _
theorem fl_pos {α : Type} {enc : α → List Value} {z : Nat} {l : List α} (hz : ∀ x, (enc x).length = z) (h0 : 0 < z) (h : 0 < l.length) : 0 < (l.flatMap enc).length := by rw [fl_len hz]; exact Nat.mul_pos h h0
theorem fl_pos' {α : Type} {enc : α → List Value} {z : Nat} {l : List α} (hz : ∀ x, (enc x).length = z) (h : 0 < (l.flatMap enc).length) : 0 < l.length := by
  rw [fl_len hz] at h
  exact Nat.pos_of_ne_zero fun e => by rw [e, Nat.zero_mul] at h; omega
/-- a loop's round is to come -/
def wpI (P : Program) (w0 : World) (D : List Nat) (n : Nat) (r : Option Nat) (c : Code) (Q : Post) (ds : List Nat) (σ : Fr) (L : List Res) : Prop :=
  ∀ a w, FrOK n ds σ a → SH w0 D L w → ∀ (b : Frame) (k : List Item) (cs : List Frame), b.roundOf = (FW r).round → (FW r).fn b.fn → (FW r).room (cs.length + 1 + 0) →
    ∃ e a' w', toQ w0 D n Q e a' w' ∧ ArrivesIn (Machine.fenced P (FW r)) P (lone (b.atR a (.code c :: .inLoop c :: k)) cs w) b k cs e a' w'
theorem wpS_unroll {c : Code} {Q : Post} (h : wpI P w0 D n r c Q ds σ L) : wpS P w0 D n r (.loop c) Q ds σ L := by
  intro a w hf hs
  intro b k cs hro hb hr
  obtain ⟨e, a', w', hq, harr⟩ := h a w hf hs b k cs hro hb hr
  exact ⟨e, a', w', hq, .of_steps (.one (fenced_calm hb hr rfl) stepR_loop) harr⟩
theorem wpI_step {c : Code} {Q : Post} (h : wpS P w0 D n r c (thenS (wpI P w0 D n r c Q) Q) ds σ L) : wpI P w0 D n r c Q ds σ L := by
  intro a w hf hs b k cs hro hb hr
  obtain ⟨e, a₁, w₁, ⟨ds₁, σ₁, L₁, hf₁, hs₁, hq⟩, harr⟩ := h a w hf hs b (.inLoop c :: k) cs hro hb hr
  cases e with
  | normal =>
    obtain ⟨e₂, a₂, w₂, hq₂, harr₂⟩ := hq a₁ w₁ hf₁ hs₁ b k cs hro hb hr
    exact ⟨e₂, a₂, w₂, hq₂, .of_steps (StepsIn.trans harr (.one (fenced_calm hb hr rfl) stepR_inLoop)) harr₂⟩
  | exit id => exact ⟨_, a₁, w₁, ⟨_, _, _, hf₁, hs₁, hq⟩, .pass (x := .inLoop c) rfl (fun _ _ => .inl (by simp)) harr⟩
  | goto l => exact ⟨_, a₁, w₁, ⟨_, _, _, hf₁, hs₁, hq⟩, .pass (x := .inLoop c) rfl (fun _ _ => .inl (by simp)) harr⟩
  | ret => exact ⟨_, a₁, w₁, ⟨_, _, _, hf₁, hs₁, hq⟩, .pass (x := .inLoop c) rfl (fun _ _ => .inl (by simp)) harr⟩
  | panic ch => exact ⟨_, a₁, w₁, ⟨_, _, _, hf₁, hs₁, hq⟩, .pass (x := .inLoop c) rfl (fun _ _ => .inl (by simp)) harr⟩
  | outgrown => exact ⟨_, a₁, w₁, ⟨_, _, _, hf₁, hs₁, hq⟩, .pass (x := .inLoop c) rfl (fun _ _ => .inl (by simp)) harr⟩
/-- a number as an unsigned one -/
def u64of (x : Int) : Nat := (x % 18446744073709551616).toNat
theorem u64of_wrap (x : Int) : IntKind.u64.wrap x = ((u64of x : Nat) : Int) := by
  unfold u64of
  rw [Int.toNat_of_nonneg (Int.emod_nonneg x (by decide))]
  simp [IntKind.wrap, IntKind.signed, IntKind.bits]
theorem u64of_lt (x : Int) : u64of x < 18446744073709551616 := by unfold u64of; omega
/-- a region whose order is open; what is kept on the way is L0 -/
theorem wpS_anyL {Q : Post} {id : Nat} {ops : Array Oper} (L0 : List Res) (nk : List Nat) (hm : P.follows .mixedOrders = true) (h : anyS P w0 D n ops nk L0 (fun σ' L' => Q .normal ds σ' L') ops.size (Array.replicate ops.size false) σ L) :
    wpS P w0 D n r (.region id ops true) Q ds σ L :=
  fun a w hf hs => wpIn_region_any hm (anyS_sound (fun a w hh => toN_Q _ _ _ hh) _ _ _ _ a _ hf hs.drew h)
end
end Go.Proofs.Ytldkjjnjdjfipaa
