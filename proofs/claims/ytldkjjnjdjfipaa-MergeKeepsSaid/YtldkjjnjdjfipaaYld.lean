/- What single operations yield. It states nothing of the program. -/
import Derived.Test.YtldkjjnjdjfipaaOps
namespace Go.Proofs.Ytldkjjnjdjfipaa
open Go Go.RowKit
set_option linter.unusedVariables false
set_option linter.unusedSimpArgs false

section
variable {P : Program} {w0 : World} {D : List Nat} {n : Nat} {r : Option Nat} {ds : List Nat} {σ : Fr} {L : List Res}

def rUpon (P : Program) (w : World) (v : Value) : Result Next → Prop
  | .ok (.value u) w' => w' = w ∧ u = v
  | .ok (.enter f args) w' => w' = w ∧ Calls P f args w (fun e w'' => e = .returned v ∧ SH w [] [] w'')
  | _ => False

/-- Operation 'o' yields v wherever L holds, and lays at most new blocks that nobody looks at. -/
def OpR (P : Program) (w0 : World) (D : List Nat) (σ : Fr) (L : List Res) (op : Op) (v : Value) : Prop :=
  ∀ (d : Option Tmp) (ty : TypeId) (pos : String) (af : Array Edge) (g : Option (Nat × Bool)), (∀ c, op ≠ .defer c) ∧ ∀ w, SH w0 D L w → rUpon P w v ((execOp (ev σ) ⟨d, op, ty, pos, af, g⟩).run P w)

theorem OpR.q {op : Op} {v : Value} (h : OpR P w0 D σ L op v) (d : Option Tmp) (ty : TypeId) (pos : String) (af : Array Edge) (g : Option (Nat × Bool)) : OpQ P w0 D σ L ⟨d, op, ty, pos, af, g⟩ v := fun L' hL => by
  refine ⟨(h d ty pos af g).1, fun w hs => ?_⟩
  have h2 := (h d ty pos af g).2 w (hs.ent hL)
  generalize (execOp (ev σ) ⟨d, op, ty, pos, af, g⟩).run P w = x at *
  cases x with
  | ok y w' =>
    cases y <;> simp only [rUpon] at h2
    case value u => exact h2
    case enter f args =>
      obtain ⟨rfl, hc⟩ := h2
      exact ⟨rfl, hc.mono fun e w' ⟨he, hs'⟩ => ⟨he, hs.frame0 hs'⟩⟩
  | halt x w' => simp only [rUpon] at h2

theorem OpR.y {op : Op} {v : Value} (h : OpR P w0 D σ L op v) (d : Option Tmp) (ty : TypeId) (pos : String) (af : Array Edge) (g : Option (Nat × Bool)) : OpY P w0 D σ L ⟨d, op, ty, pos, af, g⟩ v :=
  h.q d ty pos af g L (Ent.refl L)

/-! ### The list's steps -/
theorem s_y {ops : Array Oper} {K : Fr → List Res → Prop} {d : Nat} {op : Op} {ty : TypeId} {pos : String} {af : Array Edge} {l : List Oper} {v : Value} (hy : OpR P w0 D σ L op v) (hd : Nat.blt d n = true)
    (h : wpL P w0 D n r ds ops K l (upd σ d v) L) : wpL P w0 D n r ds ops K (⟨some d, op, ty, pos, af, none⟩ :: l) σ L := wpL_y (d := some d) hd (hy.y _ _ _ _ _) h
theorem s_y0 {ops : Array Oper} {K : Fr → List Res → Prop} {op : Op} {ty : TypeId} {pos : String} {af : Array Edge} {l : List Oper} {v : Value} (hy : OpR P w0 D σ L op v)
    (h : wpL P w0 D n r ds ops K l σ L) : wpL P w0 D n r ds ops K (⟨none, op, ty, pos, af, none⟩ :: l) σ L := wpL_y (d := none) rfl (hy.y _ _ _ _ _) h
theorem s_gy {ops : Array Oper} {K : Fr → List Res → Prop} {d : Nat} {op : Op} {ty : TypeId} {pos : String} {af : Array Edge} {l : List Oper} {j dj : Nat} {o : Oper} {b b' : Bool} {v : Value} (hy : OpR P w0 D σ L op v) (hd : Nat.blt d n = true)
    (hj : ops[j]? = some o) (hdj : o.dst = some dj) (hlt : Nat.blt dj n = true) (hb : σ dj = .bool b') (hbb : b' = b)
    (h : wpL P w0 D n r ds ops K l (upd σ d v) L) : wpL P w0 D n r ds ops K (⟨some d, op, ty, pos, af, some (j, b)⟩ :: l) σ L := wpL_gy (d := some d) hd hj hdj hlt (hbb ▸ hb) (hy.y _ _ _ _ _) h
theorem s_no {ops : Array Oper} {K : Fr → List Res → Prop} {d : Nat} {op : Op} {ty : TypeId} {pos : String} {af : Array Edge} {l : List Oper} {j dj : Nat} {o : Oper} {b b' : Bool} (hd : Nat.blt d n = true)
    (hj : ops[j]? = some o) (hdj : o.dst = some dj) (hlt : Nat.blt dj n = true) (hb : σ dj = .bool b') (hne : b' = !b)
    (h : wpL P w0 D n r ds ops K l (upd σ d undef) L) : wpL P w0 D n r ds ops K (⟨some d, op, ty, pos, af, some (j, b)⟩ :: l) σ L := wpL_no (d := some d) hd hj hdj hlt hb hne h
theorem s_nu {ops : Array Oper} {K : Fr → List Res → Prop} {d : Nat} {op : Op} {ty : TypeId} {pos : String} {af : Array Edge} {l : List Oper} {j dj : Nat} {o : Oper} {b : Bool} (hd : Nat.blt d n = true)
    (hj : ops[j]? = some o) (hdj : o.dst = some dj) (hlt : Nat.blt dj n = true) (hb : σ dj = undef)
    (h : wpL P w0 D n r ds ops K l (upd σ d undef) L) : wpL P w0 D n r ds ops K (⟨some d, op, ty, pos, af, some (j, b)⟩ :: l) σ L := wpL_nu (d := some d) hd hj hdj hlt hb h

/-! ### A region that draws its order, whose operations all yield: one walk, in the text's order -/
def lexS (P : Program) (w0 : World) (D : List Nat) (n : Nat) (ops : Array Oper) (L : List Res) (K : Fr → List Res → Prop) : List Oper → Fr → Prop
  | [], σ => K σ L
  | o :: l, σ => ∃ v, Yq P w0 D n ops L o v σ ∧ lexS P w0 D n ops L K l (updO σ o.dst v)

theorem anyS_lex {ops : Array Oper} {K : Fr → List Res → Prop} (hs : Region.noSelect ops = true) : ∀ (l : List Oper) (k : Nat) (listed : Array Bool) (σ : Fr), Closed ops listed → (∀ j, l[j]? = ops[k + j]?) →
    Region.lexFrom .any ops l.length k listed = true → lexS P w0 D n ops L K l σ → anyS P w0 D n ops [] L K l.length listed σ L
  | [], _, _, _, _, _, hB, h => ⟨by simpa [Region.lexFrom] using hB, h⟩
  | o :: l, k, listed, σ, hcl, hl, hB, h => by
    have h0 : ops[k]? = some o := by simpa using (hl 0).symm
    simp only [List.length_cons, Region.lexFrom, Bool.and_eq_true] at hB
    obtain ⟨⟨hr, hf⟩, hB'⟩ := hB
    obtain ⟨v, hy, hK⟩ := h
    have hrd : k ∈ Region.ready .any ops listed := by simpa using hr
    obtain ⟨-, ok, hok, hall⟩ := mem_ready.1 hrd
    exact anyS_first 0 h0 (Region.noSelect_spec hs) l.length listed σ L hcl (fun j oj h1 h2 h3 h4 => ⟨Region.free_spec h0 hf j oj h1 h2 h3 h4, fun _ => by simp⟩) hrd hy (Ent.refl L)
      (anyS_lex hs l (k + 1) _ _ (hcl.set hok hall) (fun j => by have := hl (j + 1); simpa [Nat.add_assoc, Nat.add_comm 1 j] using this) hB' hK)

theorem closed_none (ops : Array Oper) (k : Nat) : Closed ops (Array.replicate k false) := fun j oj _ hl => by
  rw [Array.getD_eq_getD_getElem?, Array.getElem?_replicate] at hl
  split at hl <;> cases hl

theorem wpS_lex {Q : Post} {id : Nat} {l : List Oper} (hm : P.follows .mixedOrders = true) (hB : Region.lexB .any l.toArray = true) (h : lexS P w0 D n l.toArray L (fun σ' L' => Q .normal ds σ' L') l σ) :
    wpS P w0 D n r (.region id l.toArray true) Q ds σ L := by
  simp only [Region.lexB, Bool.and_eq_true] at hB
  refine wpS_any [] hm ?_
  have := anyS_lex (P := P) (w0 := w0) (D := D) (n := n) (L := L) (ops := l.toArray) (K := fun σ' L' => Q .normal ds σ' L') hB.1 l 0 (Array.replicate l.toArray.size false) σ (closed_none _ _) (by simp) (by simpa using hB.2) h
  simpa using this

theorem x_nil {ops : Array Oper} {K : Fr → List Res → Prop} (h : K σ L) : lexS P w0 D n ops L K [] σ := h
theorem x_y {ops : Array Oper} {K : Fr → List Res → Prop} {d : Nat} {op : Op} {ty : TypeId} {pos : String} {af : Array Edge} {l : List Oper} {v : Value} (hy : OpR P w0 D σ L op v) (hd : Nat.blt d n = true)
    (h : lexS P w0 D n ops L K l (upd σ d v)) : lexS P w0 D n ops L K (⟨some d, op, ty, pos, af, none⟩ :: l) σ := ⟨v, ⟨hd, hy.q _ _ _ _ _⟩, h⟩
theorem x_y0 {ops : Array Oper} {K : Fr → List Res → Prop} {op : Op} {ty : TypeId} {pos : String} {af : Array Edge} {l : List Oper} {v : Value} (hy : OpR P w0 D σ L op v)
    (h : lexS P w0 D n ops L K l σ) : lexS P w0 D n ops L K (⟨none, op, ty, pos, af, none⟩ :: l) σ := ⟨v, ⟨rfl, hy.q _ _ _ _ _⟩, h⟩
theorem x_gy {ops : Array Oper} {K : Fr → List Res → Prop} {d : Nat} {op : Op} {ty : TypeId} {pos : String} {af : Array Edge} {l : List Oper} {j dj : Nat} {o : Oper} {b b' : Bool} {v : Value} (hy : OpR P w0 D σ L op v) (hd : Nat.blt d n = true)
    (hj : ops[j]? = some o) (hdj : o.dst = some dj) (hlt : Nat.blt dj n = true) (hb : σ dj = .bool b') (hbb : b' = b)
    (h : lexS P w0 D n ops L K l (upd σ d v)) : lexS P w0 D n ops L K (⟨some d, op, ty, pos, af, some (j, b)⟩ :: l) σ :=
  ⟨v, ⟨hd, o, dj, hj, hdj, hlt, .inl ⟨hbb ▸ hb, hy.q _ _ _ _ _⟩⟩, h⟩
theorem x_no {ops : Array Oper} {K : Fr → List Res → Prop} {d : Nat} {op : Op} {ty : TypeId} {pos : String} {af : Array Edge} {l : List Oper} {j dj : Nat} {o : Oper} {b b' : Bool} (hd : Nat.blt d n = true)
    (hj : ops[j]? = some o) (hdj : o.dst = some dj) (hlt : Nat.blt dj n = true) (hb : σ dj = .bool b') (hne : b' = !b)
    (h : lexS P w0 D n ops L K l (upd σ d undef)) : lexS P w0 D n ops L K (⟨some d, op, ty, pos, af, some (j, b)⟩ :: l) σ :=
  ⟨undef, ⟨hd, o, dj, hj, hdj, hlt, .inr ⟨.inl (hne ▸ hb), rfl⟩⟩, h⟩
theorem x_nu {ops : Array Oper} {K : Fr → List Res → Prop} {d : Nat} {op : Op} {ty : TypeId} {pos : String} {af : Array Edge} {l : List Oper} {j dj : Nat} {o : Oper} {b : Bool} (hd : Nat.blt d n = true)
    (hj : ops[j]? = some o) (hdj : o.dst = some dj) (hlt : Nat.blt dj n = true) (hb : σ dj = undef)
    (h : lexS P w0 D n ops L K l (upd σ d undef)) : lexS P w0 D n ops L K (⟨some d, op, ty, pos, af, some (j, b)⟩ :: l) σ :=
  ⟨undef, ⟨hd, o, dj, hj, hdj, hlt, .inr ⟨.inr hb, rfl⟩⟩, h⟩

/-! ### one operation of such a region at a time -/
theorem Yq.of {ops : Array Oper} {d : Option Nat} {op : Op} {ty : TypeId} {pos : String} {af : Array Edge} {v : Value} (hy : OpR P w0 D σ L op v) (hd : okO n d = true) : Yq P w0 D n ops L ⟨d, op, ty, pos, af, none⟩ v σ := ⟨hd, hy.q _ _ _ _ _⟩
theorem Yq.ofg {ops : Array Oper} {d : Option Nat} {op : Op} {ty : TypeId} {pos : String} {af : Array Edge} {j dj : Nat} {o : Oper} {b b' : Bool} {v : Value} (hy : OpR P w0 D σ L op v) (hd : okO n d = true)
    (hj : ops[j]? = some o) (hdj : o.dst = some dj) (hlt : Nat.blt dj n = true) (hb : σ dj = .bool b') (hbb : b' = b) : Yq P w0 D n ops L ⟨d, op, ty, pos, af, some (j, b)⟩ v σ := ⟨hd, o, dj, hj, hdj, hlt, .inl ⟨hbb ▸ hb, hy.q _ _ _ _ _⟩⟩
theorem Yq.no {ops : Array Oper} {d : Option Nat} {op : Op} {ty : TypeId} {pos : String} {af : Array Edge} {j dj : Nat} {o : Oper} {b b' : Bool} (hd : okO n d = true)
    (hj : ops[j]? = some o) (hdj : o.dst = some dj) (hlt : Nat.blt dj n = true) (hb : σ dj = .bool b') (hbb : b' = !b) : Yq P w0 D n ops L ⟨d, op, ty, pos, af, some (j, b)⟩ undef σ := ⟨hd, o, dj, hj, hdj, hlt, .inr ⟨.inl (hbb ▸ hb), rfl⟩⟩
theorem Yq.nu {ops : Array Oper} {d : Option Nat} {op : Op} {ty : TypeId} {pos : String} {af : Array Edge} {j dj : Nat} {o : Oper} {b : Bool} (hd : okO n d = true)
    (hj : ops[j]? = some o) (hdj : o.dst = some dj) (hlt : Nat.blt dj n = true) (hb : σ dj = undef) : Yq P w0 D n ops L ⟨d, op, ty, pos, af, some (j, b)⟩ undef σ := ⟨hd, o, dj, hj, hdj, hlt, .inr ⟨.inr hb, rfl⟩⟩

/-! ### The operations -/
theorem OpR.mk {op : Op} {v : Value} (hd : ∀ c, op ≠ .defer c) (h : ∀ d ty pos af g w, SH w0 D L w → (execOp (ev σ) ⟨d, op, ty, pos, af, g⟩).run P w = .ok (.value v) w) : OpR P w0 D σ L op v :=
  fun d ty pos af g => ⟨hd, fun w hs => by rw [h d ty pos af g w hs]; exact ⟨rfl, rfl⟩⟩

theorem y_move {x : Operand} {v : Value} (h : ev σ x = v) : OpR P w0 D σ L (.move x) v := .mk (by simp) fun d ty pos af g w _ => by simp [execOp, h]
theorem y_assign {x : Operand} {v : Value} (h : ev σ x = v) : OpR P w0 D σ L (.assign x) v := .mk (by simp) fun d ty pos af g w _ => by simp [execOp, h]
theorem y_pick {c x y : Operand} {b : Bool} {v : Value} (hc : ev σ c = .bool b) (h : (if b then ev σ x else ev σ y) = v) : OpR P w0 D σ L (.pick c x y) v := .mk (by simp) fun d ty pos af g w _ => by
  cases b <;> simp_all [execOp, asBool]
theorem y_pickT {c x y : Operand} {b : Bool} {v : Value} (hc : ev σ c = .bool b) (hb : b = true) (h : ev σ x = v) : OpR P w0 D σ L (.pick c x y) v := y_pick hc (by rw [hb]; exact h)
theorem y_pickF {c x y : Operand} {b : Bool} {v : Value} (hc : ev σ c = .bool b) (hb : b = false) (h : ev σ y = v) : OpR P w0 D σ L (.pick c x y) v := y_pick hc (by rw [hb]; exact h)

theorem y_fieldAddr {t : TypeId} {x : Operand} {i b o o' : Nat} {fs : Array Field} {f : Field} {m : Nat} (hx : ev σ x = .pointer (some ⟨b, o, none⟩)) (hu : P.underlying t = some (.struct fs)) (hf : fs[i]? = some f)
    (hs : ∀ w, (sizeOf f.type).run P w = .ok m w) (hm : m ≠ 0) (ho : o + f.offset = o') : OpR P w0 D σ L (.fieldAddr t x i) (.pointer (some ⟨b, o', none⟩)) := .mk (by simp) fun d ty pos af g w _ => by
  subst ho
  simp [execOp, hx, Instr.fieldAt, run_underlying hu, hf, Instr.sureAddr, fieldPlace, hs, hm, Addr.add_lit]

theorem y_not {t : TypeId} {x : Operand} {b : Bool} (hx : ev σ x = .bool b) : OpR P w0 D σ L (.unOp .not t x) (.bool (!b)) := .mk (by simp) fun d ty pos af g w _ => by simp [execOp, hx, Op.unary]
theorem y_notK {t : TypeId} {x : Operand} {b c : Bool} (hx : ev σ x = .bool b) (h : (!b) = c) : OpR P w0 D σ L (.unOp .not t x) (.bool c) := h ▸ y_not hx
end
end Go.Proofs.Ytldkjjnjdjfipaa
