/- Fam: what can be read of many slices, as one resource. -/
import Derived.Test.YtldkjjnjdjfipaaRdr
import Derived.Test.YtldkjjnjdjfipaaWMrg3
namespace Go.Proofs.Ytldkjjnjdjfipaa
open Go Go.RowKit
set_option linter.unusedVariables false
set_option linter.unusedSimpArgs false
theorem SH.join {w0 w : World} {D : List Nat} {p q r : Res} {N : List Res} (h : SH w0 D (p :: q :: N) w) (hf : ∀ b ∈ r.fp, b ∈ p.fp ∨ b ∈ q.fp) (ho : r.ok w) : SH w0 D (r :: N) w := by
  have h1 := List.pairwise_cons.1 h.disj
  have h2 := List.pairwise_cons.1 h1.2
  refine ⟨h.os, h.tape, h.output, h.size, h.old, ?_, ?_, ?_⟩
  · intro x hx
    rcases List.mem_cons.1 hx with rfl | hx
    · exact ho
    · exact h.ok x (List.mem_cons_of_mem _ (List.mem_cons_of_mem _ hx))
  · intro x hx b hb
    rcases List.mem_cons.1 hx with rfl | hx
    · rcases hf b hb with h3 | h3
      · exact h.own p List.mem_cons_self b h3
      · exact h.own q (List.mem_cons_of_mem _ List.mem_cons_self) b h3
    · exact h.own x (List.mem_cons_of_mem _ (List.mem_cons_of_mem _ hx)) b hb
  · refine List.pairwise_cons.2 ⟨fun x hx b hb hb2 => ?_, h2.2⟩
    rcases hf b hb with h3 | h3
    · exact h1.1 x (List.mem_cons_of_mem _ hx) b h3 hb2
    · exact h2.1 x hx b h3 hb2
def famF (hd : List SlH) (bs : List (List Rec)) : List Nat := (List.range bs.length).flatMap fun k => if (bs.getD k []).length = 0 then [] else [aB (hd.getD k default).a]
theorem mem_famF {hd : List SlH} {bs : List (List Rec)} {b : Nat} : b ∈ famF hd bs ↔ ∃ k, k < bs.length ∧ ¬ (bs.getD k []).length = 0 ∧ b = aB (hd.getD k default).a := by
  unfold famF
  rw [List.mem_flatMap]
  constructor
  · rintro ⟨k, hk, hb⟩
    split at hb
    · cases hb
    · exact ⟨k, List.mem_range.1 hk, by assumption, List.mem_singleton.1 hb⟩
  · rintro ⟨k, hk, h1, h2⟩
    exact ⟨k, List.mem_range.2 hk, by rw [if_neg h1]; exact List.mem_singleton.2 h2⟩
theorem flR_len (l : List Rec) : (l.flatMap recV).length = l.length * 4 := fl_len recV_len l
def fam (hd : List SlH) (bs : List (List Rec)) : Res :=
  ⟨famF hd bs, fun w => ∀ k, k < bs.length → Rds w (hd.getD k default).a ((bs.getD k []).flatMap recV), fun w w' h hw k hk => rds_loc (hw k hk) fun hl => h _ (mem_famF.2 ⟨k, hk, by rw [flR_len] at hl; omega, rfl⟩)⟩
section
variable {w0 : World} {D : List Nat} {L M N : List Res} {hd : List SlH} {bs : List (List Rec)}
theorem fam_rd (hp : Pick L (fam hd bs) M) {k : Nat} (hk : k < bs.length) : ∀ w, SH w0 D L w → Rds w (hd.getD k default).a ((bs.getD k []).flatMap recV) := fun w hs => hs.get hp k hk
theorem fam_nil (w : World) (h : SH w0 D L w) : SH w0 D (fam [] [] :: L) w := by
  refine ⟨h.os, h.tape, h.output, h.size, h.old, ?_, ?_, ?_⟩
  · intro p hp
    rcases List.mem_cons.1 hp with rfl | hp
    · intro k hk; exact absurd hk (by simp)
    · exact h.ok p hp
  · intro p hp b hb
    rcases List.mem_cons.1 hp with rfl | hp
    · exact absurd hb (by simp [fam, famF])
    · exact h.own p hp b hb
  · refine List.pairwise_cons.2 ⟨fun x hx b hb => ?_, h.disj⟩
    exact absurd hb (by simp [fam, famF])
theorem getD_app {α : Type} [Inhabited α] {l : List α} {x d : α} {k : Nat} : (l ++ [x]).getD k d = if k < l.length then l.getD k d else if k = l.length then x else d := by
  rw [List.getD_eq_getElem?_getD, List.getD_eq_getElem?_getD]
  by_cases h : k < l.length
  · rw [if_pos h, List.getElem?_append_left h]
  · rw [if_neg h, List.getElem?_append_right (by omega)]
    by_cases h2 : k = l.length
    · rw [if_pos h2, h2, Nat.sub_self]; rfl
    · rw [if_neg h2, List.getElem?_eq_none (by simp; omega)]; rfl
theorem fam_push (h0 : SlH) {c n : Nat} {d : List Rec} (hp : Pick L (osl h0.a c n 4 23 (d.flatMap recV)) M) (hq : Pick M (fam hd bs) N) (hl : hd.length = bs.length) : ∀ w, SH w0 D L w → SH w0 D (fam (hd ++ [h0]) (bs ++ [d]) :: N) w := fun w hs => by
  have h1 := hs.pick hp
  have h2 : SH w0 D (fam hd bs :: osl h0.a c n 4 23 (d.flatMap recV) :: N) w := (h1.perm ((hq.perm.cons _).trans (List.Perm.swap _ _ _)))
  have k1 := h2.ok _ List.mem_cons_self
  have k2 := h2.ok _ (List.mem_cons_of_mem _ List.mem_cons_self)
  have hget : ∀ k, k < (bs ++ [d]).length → (k < bs.length ∧ (bs ++ [d]).getD k [] = bs.getD k [] ∧ (hd ++ [h0]).getD k default = hd.getD k default) ∨ ((bs ++ [d]).getD k [] = d ∧ (hd ++ [h0]).getD k default = h0) := by
    intro k hk
    rw [List.length_append, List.length_singleton] at hk
    rw [getD_app, getD_app]
    by_cases h : k < bs.length
    · exact .inl ⟨h, by rw [if_pos h], by rw [if_pos (by omega)]⟩
    · exact .inr ⟨by rw [if_neg h, if_pos (by omega)], by rw [if_neg (by omega), if_pos (by omega)]⟩
  refine SH.join h2 ?_ ?_
  · intro b hb
    obtain ⟨k, hk, h3, h4⟩ := mem_famF.1 hb
    rcases hget k hk with ⟨e0, e1, e2⟩ | ⟨e1, e2⟩
    · rw [e1] at h3; rw [e2] at h4
      exact .inl (mem_famF.2 ⟨k, e0, h3, h4⟩)
    · rw [e1] at h3; rw [e2] at h4
      subst h4
      exact .inr (osl_blk k2 (by rw [flR_len]; omega))
  · intro k hk
    rcases hget k hk with ⟨e0, e1, e2⟩ | ⟨e1, e2⟩
    · rw [e1, e2]; exact k1 k e0
    · rw [e1, e2]; exact osl_rds k2
theorem getD_set {α : Type} {l : List α} {x d : α} {i k : Nat} (hi : i < l.length) : (l.set i x).getD k d = if k = i then x else l.getD k d := by
  rw [List.getD_eq_getElem?_getD, List.getD_eq_getElem?_getD, List.getElem?_set]
  by_cases h : k = i
  · subst h; simp [hi]
  · rw [if_neg (fun e => h e.symm), if_neg h]
theorem fam_two {x : Option Addr} {c n : Nat} {T : List Rec} (hp : Pick L (osl x c n 4 23 (T.flatMap recV)) M) (hq : Pick M (fam hd bs) N) (hl : hd.length = bs.length) {h1 h2 : SlH} {d1 d2 : List Rec} {i j : Nat} (hi : i < bs.length) (hj : j < bs.length)
    (hr : ∀ w, Rds w x (T.flatMap recV) → Rds w h1.a (d1.flatMap recV) ∧ Rds w h2.a (d2.flatMap recV)) (b1 : aB h1.a = aB x) (b2 : aB h2.a = aB x) (t1 : d1.length ≤ T.length) (t2 : d2.length ≤ T.length) :
    ∀ w, SH w0 D L w → SH w0 D (fam ((hd.set i h1).set j h2) ((bs.set i d1).set j d2) :: N) w := fun w hs => by
  have g1 := hs.pick hp
  have g2 : SH w0 D (fam hd bs :: osl x c n 4 23 (T.flatMap recV) :: N) w := (g1.perm ((hq.perm.cons _).trans (List.Perm.swap _ _ _)))
  have k1 := g2.ok _ List.mem_cons_self
  have k2 := g2.ok _ (List.mem_cons_of_mem _ List.mem_cons_self)
  have hR := hr w (osl_rds k2)
  have hget : ∀ k, k < ((bs.set i d1).set j d2).length → (k < bs.length ∧ ((bs.set i d1).set j d2).getD k [] = bs.getD k [] ∧ ((hd.set i h1).set j h2).getD k default = hd.getD k default) ∨ (((bs.set i d1).set j d2).getD k [] = d1 ∧ ((hd.set i h1).set j h2).getD k default = h1) ∨ (((bs.set i d1).set j d2).getD k [] = d2 ∧ ((hd.set i h1).set j h2).getD k default = h2) := by
    intro k hk
    rw [List.length_set, List.length_set] at hk
    rw [getD_set (by rw [List.length_set]; exact hj), getD_set hi, getD_set (by rw [List.length_set]; omega), getD_set (by omega)]
    by_cases e1 : k = j
    · exact .inr (.inr ⟨by rw [if_pos e1], by rw [if_pos e1]⟩)
    · by_cases e2 : k = i
      · exact .inr (.inl ⟨by rw [if_neg e1, if_pos e2], by rw [if_neg e1, if_pos e2]⟩)
      · exact .inl ⟨hk, by rw [if_neg e1, if_neg e2], by rw [if_neg e1, if_neg e2]⟩
  refine SH.join g2 ?_ ?_
  · intro b hb
    obtain ⟨k, hk, h3, h4⟩ := mem_famF.1 hb
    rcases hget k hk with ⟨e0, e1, e2⟩ | ⟨e1, e2⟩ | ⟨e1, e2⟩
    · rw [e1] at h3; rw [e2] at h4
      exact .inl (mem_famF.2 ⟨k, e0, h3, h4⟩)
    · rw [e1] at h3; rw [e2, b1] at h4
      subst h4
      exact .inr (osl_blk k2 (by rw [flR_len]; omega))
    · rw [e1] at h3; rw [e2, b2] at h4
      subst h4
      exact .inr (osl_blk k2 (by rw [flR_len]; omega))
  · intro k hk
    rcases hget k hk with ⟨e0, e1, e2⟩ | ⟨e1, e2⟩ | ⟨e1, e2⟩
    · rw [e1, e2]; exact k1 k e0
    · rw [e1, e2]; exact hR.1
    · rw [e1, e2]; exact hR.2
theorem spl_lo {w : World} {x : Option Addr} {T : List Rec} (z : Nat) (h : Rds w x (T.flatMap recV)) : Rds w x ((T.take z).flatMap recV) := by
  rw [← fl_take recV_len]
  exact h.take _
theorem spl_hi {w : World} {x : Option Addr} {T : List Rec} {c : Nat} (z : Nat) (hc : T.length ≤ c) (h : Rds w x (T.flatMap recV)) : Rds w (subA x c z 4) ((T.drop z).flatMap recV) := by
  have h1 := h.sub (cap := c) (lo := z) (hi := T.length) (sz := 4) hc
  rw [fl_drop recV_len, List.take_of_length_le (by rw [fl_len recV_len, List.length_drop]; exact Nat.le_refl _)] at h1
  exact h1
/-- both halves of a split block take their places -/
theorem fam_up {x : Option Addr} {c n : Nat} {T : List Rec} (hp : Pick L (osl x c n 4 23 (T.flatMap recV)) M) (hq : Pick M (fam hd bs) N) (hl : hd.length = bs.length) (hc : T.length ≤ c) {i j z z1 z2 z3 z4 : Nat} (hi : i < bs.length) (hj : j < bs.length) :
    ∀ w, SH w0 D L w → SH w0 D (fam ((hd.set i ⟨x, z1, z2⟩).set j ⟨subA x c z 4, z3, z4⟩) ((bs.set i (T.take z)).set j (T.drop z)) :: N) w :=
  fam_two hp hq hl hi hj (fun w h => ⟨spl_lo z h, spl_hi z hc h⟩) rfl (subA_aB _ _ _ _) (by rw [List.length_take]; omega) (by rw [List.length_drop]; omega)
theorem fam_dn {x : Option Addr} {c n : Nat} {T : List Rec} (hp : Pick L (osl x c n 4 23 (T.flatMap recV)) M) (hq : Pick M (fam hd bs) N) (hl : hd.length = bs.length) (hc : T.length ≤ c) {i j z z1 z2 z3 z4 : Nat} (hi : i < bs.length) (hj : j < bs.length) :
    ∀ w, SH w0 D L w → SH w0 D (fam ((hd.set i ⟨subA x c z 4, z3, z4⟩).set j ⟨x, z1, z2⟩) ((bs.set i (T.drop z)).set j (T.take z)) :: N) w :=
  fam_two hp hq hl hi hj (fun w h => ⟨spl_hi z hc h, spl_lo z h⟩) (subA_aB _ _ _ _) rfl (by rw [List.length_drop]; omega) (by rw [List.length_take]; omega)
end
end Go.Proofs.Ytldkjjnjdjfipaa
