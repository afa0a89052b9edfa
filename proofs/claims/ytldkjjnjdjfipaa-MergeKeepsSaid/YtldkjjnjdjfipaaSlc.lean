/- Slices that a call makes: how they come to be, and contracts that hand one back. It states nothing of the program. -/
import Derived.Test.YtldkjjnjdjfipaaNumZ
import Derived.Laws.Cover3
namespace Go.Proofs.Ytldkjjnjdjfipaa
open Go Go.RowKit
set_option linter.unusedVariables false
set_option linter.unusedSimpArgs false

theorem rds_none {α : Type} {enc : α → List Value} {z : Nat} {w : World} {a : Option Addr} {l : List α} (hz : ∀ x, (enc x).length = z) (hp : 0 < z) (hr : Rds w a (l.flatMap enc)) (ha : a = none) : l = [] := by
  cases l with
  | nil => rfl
  | cons x l =>
    exfalso
    have h := Rds.head hr (by rw [fl_len hz]; simp [hp])
    rw [ha] at h; cases h
section
variable {P : Program} {w0 : World} {D : List Nat} {σ : Fr} {L L' M : List Res}
theorem OpE.ent {o : Oper} {K : Value → List Res → Prop} (he : ∀ w, SH w0 D L w → SH w0 D L' w) (h : OpE P w0 D σ L' o K) : OpE P w0 D σ L o K := ⟨h.1, fun w hs => h.2 w (he w hs)⟩
theorem OpE.y {op : Op} {v : Value} {K : Value → List Res → Prop} {d : Option Tmp} {ty : TypeId} {pos : String} {af : Array Edge} {g : Option (Nat × Bool)} (hy : OpR P w0 D σ L op v) (hK : K v L) : OpE P w0 D σ L ⟨d, op, ty, pos, af, g⟩ K := OpY.E (OpR.y hy _ _ _ _ _) hK
/-- a nil slice is owned -/
theorem SH.nil0 {sz : Nat} {t : TypeId} (w : World) (h : SH w0 D L w) : SH w0 D (osl none 0 0 sz t [] :: L) w := by
  refine ⟨h.os, h.tape, h.output, h.size, h.old, ?_, ?_, ?_⟩
  · intro p hp
    rcases List.mem_cons.1 hp with rfl | hp
    · exact ⟨by simp, .inl ⟨rfl, rfl⟩⟩
    · exact h.ok p hp
  · intro p hp b hb
    rcases List.mem_cons.1 hp with rfl | hp
    · simp [osl, Value.ownBlock] at hb
    · exact h.own p hp b hb
  · exact List.pairwise_cons.2 ⟨fun q hq b hb => by simp [osl, Value.ownBlock] at hb, h.disj⟩
/-- a block of one's own, as a slice -/
theorem SH.celO {b n sz : Nat} {t : TypeId} {l : List Value} (hp : Pick L (cel b t l) M) (hl : l.length = n * sz) (hm : n ≤ maxLen) (w : World) (h : SH w0 D L w) : SH w0 D (osl (some ⟨b, 0, none⟩) n n sz t l :: M) w :=
  SH.weaken (h.pick hp) ⟨fun c hc => by simpa [osl, Value.ownBlock, cel, blk] using hc, fun w' hw' => by
    have hw2 : w'.heap[b]? = some (.cells l.toArray t (0, 0)) := hw'
    exact ⟨hl, .inr ⟨b, n, l.toArray, rfl, Nat.zero_le _, hw2, Nat.le_refl _, hm, by simpa using hl, by simp [← hl]⟩⟩⟩

theorem y_isNil {t t2 : TypeId} {x y : Operand} {e : TypeId} {a : Option Addr} {l c : Nat} (hx : ev σ x = .slice a l c) (hy : ev σ y = .slice none 0 0) (ht : P.underlying t = some (.slice e)) (hg : P.eqGuardType P.depth t = false) : OpR P w0 D σ L (.binOp .eql t x y t2) (.bool a.isNone) :=
  .mk (by simp) fun d ty pos af g w _ => by simp [execOp, hx, hy, eqGuard, binOp, run_equal_slice_nil _ t e a l c ht, hg]
theorem finNil {e : Exit} {ds : List Nat} {fn : Func} {R : Ending → World → Prop} {t : Tmp} {sz : Nat} {ty : TypeId} (he : e = .normal ∨ e = .ret) (hE : Ent L (ds.map dfr ++ [])) (hr : fn.results = #[.tmp t]) (hv : σ t = .slice none 0 0)
    (hR : ∀ w', SH w0 D [osl none 0 0 sz ty []] w' → R (.returned (.slice none 0 0)) w') : finS P w0 D fn R e ds σ L := fin1 he hE hr hv fun w' hs => hR w' (SH.nil0 w' hs)

theorem wpL_ent {n : Nat} {r : Option Nat} {ds : List Nat} {ops : Array Oper} {K : Fr → List Res → Prop} {l : List Oper} (he : ∀ w, SH w0 D L w → SH w0 D L' w) (h : wpL P w0 D n r ds ops K l σ L') : wpL P w0 D n r ds ops K l σ L := fun a w hf hs => h a w hf (he w hs)
theorem wpS_cap {n : Nat} {r : Option Nat} {fnr : Code} {Q : Exit → List Nat → Fr → List Res → Prop} {ds : List Nat} {a : Option Addr} {c m sz : Nat} {t : TypeId} {l : List Value} (hp : Pick L (osl a c m sz t l) M) (h : m ≤ c → wpS P w0 D n r fnr Q ds σ L) : wpS P w0 D n r fnr Q ds σ L := fun a w hf hs => h (osl_cap (hs.get hp)) a w hf hs
theorem wpS_nil0 {n : Nat} {r : Option Nat} {fnr : Code} {Q : Exit → List Nat → Fr → List Res → Prop} {ds : List Nat} (sz : Nat) (t : TypeId) (h : wpS P w0 D n r fnr Q ds σ (osl none 0 0 sz t [] :: L)) : wpS P w0 D n r fnr Q ds σ L := fun a w hf hs => h a w hf (SH.nil0 w hs)

/-- append, in lists of things -/
theorem e_appendL {α : Type} {enc : α → List Value} {s x : Operand} {t e : TypeId} {i : TypeInfo} {z : Value} {a a2 : Option Addr} {cap m sz k c2 bytes : Nat} {xs ns zs : List α} {K : Value → List Res → Prop} {d : Option Tmp} {ty : TypeId} {pos : String} {af : Array Edge} {g : Option (Nat × Bool)}
    (hlen : ∀ x, (enc x).length = sz) (hone : ∀ x, (enc x).all Value.oneCell' = true)
    (ht : P.underlying t = some (.slice e)) (hi : P.info? e = some i) (hz : i.zero = some z) (hsize : i.size = sz) (hby : i.bytes = bytes) (hzs : z.cells.size = sz) (hsz : 0 < sz)
    (hs : ev σ s = .slice a m cap) (hx : ev σ x = .slice a2 k c2) (hm : m = xs.length) (hk : k = ns.length) (hp : Pick L (osl a cap m sz e (xs.flatMap enc)) M) (hsrc : ∀ w, SH w0 D L w → Rds w a2 (ns.flatMap enc)) (hzz : xs ++ ns = zs) (hb : zs.length * bytes ≤ 140737488355328) (hb2 : zs.length ≤ 9007199254740992)
    (hK : ∀ a' cap', K (.slice a' zs.length cap') (osl a' cap' zs.length sz e (zs.flatMap enc) :: M)) : OpE P w0 D σ L ⟨d, .call { callee := .builtin .append, args := #[s, x], argTypes := #[t, t] }, ty, pos, af, g⟩ K := by
  subst hm; subst hk; subst hzz
  rw [List.length_append] at hb hb2
  refine e_append (news := ns.flatMap enc) (bytes := bytes) ht hi hz hsize hby hzs hsz hs hx hp (fun w hw => ⟨fl_len hlen _, hsrc w hw⟩) (fl_one hone _) hb hb2 ?_
  intro a' cap'
  have := hK a' cap'
  rw [List.length_append, fl_app] at this
  exact this

/-- a store of one whole thing into a slice of one's own -/
theorem e_storeL {α : Type} {enc : α → List Value} {t : TypeId} {p x : Operand} {a : Option Addr} {cap m sz i : Nat} {ty' : TypeId} {xs : List α} {y : α} {v : Value} {K : Value → List Res → Prop} {d : Option Tmp} {ty : TypeId} {pos : String} {af : Array Edge} {g : Option (Nat × Bool)}
    (hlen : ∀ x, (enc x).length = sz) (hone : ∀ x, (enc x).all Value.oneCell' = true) (hsz : 0 < sz)
    (ha : ev σ p = .pointer (some ⟨aB a, aO a + i * sz, none⟩)) (hx : ev σ x = v) (hv : v.cells = (enc y).toArray) (hs : ∀ w, (sizeOf t).run P w = .ok sz w) (hp : Pick L (osl a cap m sz ty' (xs.flatMap enc)) M) (hi : i < xs.length)
    (hK : K undef (osl a cap m sz ty' ((xs.set i y).flatMap enc) :: M)) : OpE P w0 D σ L ⟨d, .store t p x, ty, pos, af, g⟩ K := by
  refine e_storeO (vs := enc y) (l' := (xs.set i y).flatMap enc) ha hx hv (hone y) (by rw [hlen]; exact hsz) (by rw [hlen]; exact hs) hp ?_ (fl_set hlen xs i hi y) hK
  rw [hlen, fl_len hlen]
  have : i * sz + sz = (i + 1) * sz := by rw [Nat.succ_mul]
  rw [this]
  exact Nat.mul_le_mul_right _ hi

/-- append of zeros to nothing: a new block -/
theorem run_appendZ0 (w : World) (t ti ty e : TypeId) (i : TypeInfo) (z : Value) (size bytes : Nat) (ht : P.underlying t = some (.slice e)) {k : IntKind} (hti : P.underlying ti = some (.int k)) (hi : P.info? e = some i) (hz : i.zero = some z)
    (hsize : i.size = size) (hby : i.bytes = bytes) (hzs : z.cells.size = size) (hsz : 0 < size) (hb0 : 0 < bytes) (kx : IntKind) (m : Nat) (hm0 : 0 < m) (hbytes : m * bytes ≤ 140737488355328) :
    ∃ c w', (Builtin.append_ #[t, ti] ty #[.slice none 0 0, .int kx m]).run P w = .ok (.slice (some ⟨w.heap.size, 0, none⟩) m c) w' ∧
      w'.ownsRow 0 e size (.slice (some ⟨w.heap.size, 0, none⟩) m c) m (Builtin.zeroCells z.cells m).toList ∧ w.grownBy w' none := by
  subst hsize
  subst hby
  have hle : m ≤ 140737488355328 := Nat.le_trans (Nat.le_mul_of_pos_right _ hb0) hbytes
  have h63 : m ≤ maxLen := by simp only [maxLen]; omega
  have hw : IntKind.i64.wrap (m : Int) = m := wI rfl (by omega) (by omega)
  have hneg : ¬ ((m : Int) < 0) := by omega
  have hbig : ¬ (281474976710656 < (m : Int) * (i.bytes : Int)) := by
    rw [← Int.natCast_mul]
    omega
  have hsn : i.size ≠ 0 := by omega
  have hn : m ≠ 0 := by omega
  have h63' : ¬ (9223372036854775807 < (m : Int)) := by omega
  have hfit := growslice_fits (need := m) (old := 0) hm0 hbytes
  have h48' : ¬ (281474976710656 < Builtin.nextslicecap m 0 * i.bytes) := by omega
  have hmz : ¬ (m * i.size = 0) := Nat.mul_ne_zero (by omega) hsn
  obtain ⟨news, hnews⟩ : ∃ news, news = (Builtin.zeroCells z.cells m).toList := ⟨_, rfl⟩
  have hna : Builtin.zeroCells z.cells m = news.toArray := by rw [hnews]
  have hl : news.length = m * i.size := by rw [hnews, Array.length_toList, size_zeroCells, hzs]
  refine ⟨grownCap w m 0 e, w.drew.alloc (.cells (news.toArray ++ Builtin.zeroCells z.cells (grownCap w m 0 e - m)) e), ?_, ?_, ?_⟩
  · simp [Builtin.append_, run_underlying ht, run_underlying hti, sizeOf, typeInfo, zeroValue, hi, hz, asInt, asIntOf, hw, hneg, hbig, hn, h63', h48', Question.forced, newRow, grownCap, hmz, hna, Builtin.firstCells]
  · rw [← hnews]
    refine ⟨hl, .inr ⟨w.heap.size, _, _, rfl, Nat.zero_le _, heap_alloc_new w.drew _, grownCap_ge w m 0 e, grownCap_le_maxLen w m 0 e h63, ?_, ?_⟩⟩
    · have hge := grownCap_ge w m 0 e
      simp only [Array.size_append, List.size_toArray, size_zeroCells, hzs, hl, ← Nat.add_mul]
      congr 1
      omega
    · simp only [Array.toList_append]
      rw [← hl]
      exact List.take_left
  · exact ⟨rfl, rfl, rfl, by simp, fun k hk _ => heap_alloc_old w.drew _ hk⟩
theorem e_appendZ0 {s x : Operand} {t ti e : TypeId} {i : TypeInfo} {z : Value} {k kx : IntKind} {m sz bytes : Nat} {K : Value → List Res → Prop} {d : Option Tmp} {ty : TypeId} {pos : String} {af : Array Edge} {g : Option (Nat × Bool)}
    (ht : P.underlying t = some (.slice e)) (hti : P.underlying ti = some (.int k)) (hi : P.info? e = some i) (hz : i.zero = some z) (hsize : i.size = sz) (hby : i.bytes = bytes) (hzs : z.cells.size = sz) (hsz : 0 < sz) (hb0 : 0 < bytes)
    (hs : ev σ s = .slice none 0 0) (hx : ev σ x = .int kx m) (hm0 : 0 < m) (hb : m * bytes ≤ 140737488355328)
    (hK : ∀ b c, K (.slice (some ⟨b, 0, none⟩) m c) (osl (some ⟨b, 0, none⟩) c m sz e (Builtin.zeroCells z.cells m).toList :: L)) : OpE P w0 D σ L ⟨d, .call { callee := .builtin .append, args := #[s, x], argTypes := #[t, ti] }, ty, pos, af, g⟩ K :=
  .mk (by simp) fun w hw => by
    obtain ⟨c, w', hr, h2, h3⟩ := run_appendZ0 (P := P) w t ti ty e i z sz bytes ht hti hi hz hsize hby hzs hsz hb0 kx m hm0 hb
    have hw0 := SH.nil0 (sz := sz) (t := e) w hw
    refine ⟨_, w', _, ?_, hw0.grow h2 (by simpa [Value.ownBlock] using h3) (.inr rfl), hK _ c⟩
    simp [execOp, resolve, invoke, builtin, hs, hx, hr]
/-- a slice of one's own, cut to nothing -/
theorem SH.cut0 {a : Option Addr} {c m sz : Nat} {t : TypeId} {l : List Value} (hp : Pick L (osl a c m sz t l) M) (ha : a ≠ none) (w : World) (h : SH w0 D L w) : SH w0 D (osl a c 0 sz t [] :: M) w :=
  SH.weaken (h.pick hp) ⟨fun b hb => by
    cases a with
    | none => exact absurd rfl ha
    | some p => simpa [osl, Value.ownBlock] using hb, fun w' hw' => by
    refine ⟨by simp, ?_⟩
    rcases hw'.2 with ⟨hv, -⟩ | ⟨g, cap', cur, hv, hb, hg, hle, hm, hs, -⟩
    · injection hv with e1; exact absurd e1 ha
    · injection hv with e1 e2 e3
      subst e1; subst e3
      exact .inr ⟨g, c, cur, rfl, hb, hg, Nat.zero_le _, hm, hs, by simp⟩⟩

@[reducible] def slV {α : Type} (l : List α) (x : Option Addr × Nat) : Value := .slice x.1 l.length x.2
@[reducible] def slR {α : Type} (enc : α → List Value) (sz : Nat) (t : TypeId) (l : List α) (x : Option Addr × Nat) : Res := osl x.1 x.2 l.length sz t (l.flatMap enc)
/-- the call hands back a slice of its own making -/
def MakesS {α : Type} (P : Program) (f : Nat) (args : Array Value) (w : World) (D : List Nat) (enc : α → List Value) (sz : Nat) (t : TypeId) (l : List α) : Prop :=
  Calls P f args w fun e w' => ∃ x : Option Addr × Nat, e = .returned (slV l x) ∧ SH w D [slR enc sz t l x] w' ∧ True
theorem MakesS.cap {α : Type} {f : Nat} {args : Array Value} {w : World} {enc : α → List Value} {sz : Nat} {t : TypeId} {l : List α} (h : MakesS P f args w D enc sz t l) :
    Calls P f args w fun e w' => ∃ x : Option Addr × Nat, e = .returned (slV l x) ∧ SH w D [slR enc sz t l x] w' ∧ l.length ≤ x.2 :=
  h.mono fun e w' ⟨x, h1, h2, _⟩ => ⟨x, h1, h2, osl_cap (h2.ok _ List.mem_cons_self)⟩
/-- a slice's head -/
structure SlH where
  a : Option Addr
  n : Nat
  c : Nat
  deriving Inhabited
@[reducible] def slhV (h : SlH) : List Value := [.slice h.a h.n h.c]
theorem slhV_len (h : SlH) : (slhV h).length = 1 := rfl
theorem slhV_one (h : SlH) : (slhV h).all Value.oneCell' = true := rfl
theorem flat_succ {α : Type} (ls : List (List α)) (k : Nat) (h : k < ls.length) : (ls.take k).flatten ++ ls.getD k [] = (ls.take (k + 1)).flatten := by
  rw [List.take_succ_eq_append_getElem h, List.flatten_append]
  simp [List.getD_eq_getElem?_getD, h]
theorem flat_le {α : Type} (ls : List (List α)) (k : Nat) : (ls.take k).flatten.length ≤ ls.flatten.length := by
  conv => rhs; rw [← List.take_append_drop k ls]
  rw [List.flatten_append, List.length_append]; omega
theorem rdsT {α : Type} {enc : α → List Value} {z : Nat} {a : Option Addr} {l : List α} (hz : ∀ x, (enc x).length = z) (k : Nat) (h : ∀ w, SH w0 D L w → Rds w a (l.flatMap enc)) : ∀ w, SH w0 D L w → Rds w a ((l.take k).flatMap enc) := fun w hs => by
  rw [← fl_take hz]
  exact (h w hs).take _
theorem rdsD {α : Type} {enc : α → List Value} {z c : Nat} {a : Option Addr} {l : List α} (hz : ∀ x, (enc x).length = z) (k : Nat) (hc : l.length ≤ c) (h : ∀ w, SH w0 D L w → Rds w a (l.flatMap enc)) : ∀ w, SH w0 D L w → Rds w (subA a c k z) ((l.drop k).flatMap enc) := fun w hs => by
  have h1 := (h w hs).sub (cap := c) (lo := k) (hi := l.length) (sz := z) hc
  rw [fl_drop hz, List.take_of_length_le (by rw [fl_len hz, List.length_drop]; exact Nat.le_refl _)] at h1
  exact h1
/-- the call hands back V x, and with it A x -/
def Makes (P : Program) (f : Nat) (args : Array Value) (w : World) (D : List Nat) {X : Type} (V : X → Value) (A : X → List Res) (C : X → Prop) : Prop :=
  Calls P f args w fun e w' => ∃ x : X, e = .returned (V x) ∧ SH w D (A x) w' ∧ C x
end
end Go.Proofs.Ytldkjjnjdjfipaa
