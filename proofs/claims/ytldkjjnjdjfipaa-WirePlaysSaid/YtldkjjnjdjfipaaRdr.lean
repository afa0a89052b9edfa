/- Rdr: what can be read from a slice's head on, as a resource. -/
import Derived.Test.YtldkjjnjdjfipaaRf
import Derived.Test.YtldkjjnjdjfipaaSlc
namespace Go.Proofs.Ytldkjjnjdjfipaa
open Go Go.RowKit
set_option linter.unusedVariables false
set_option linter.unusedSimpArgs false
theorem rds_loc {w w' : World} {a : Option Addr} {l : List Value} (h : Rds w a l) (hb : 0 < l.length → w'.heap[aB a]? = w.heap[aB a]?) : Rds w' a l := fun j u hj => by
  have hl : 0 < l.length := by have := (List.getElem?_eq_some_iff.1 hj).1; omega
  have h1 := h j u hj
  refine ⟨h1.1, ?_⟩
  rw [← h1.2]
  unfold World.cell?
  rw [hb hl]
def rdr (a : Option Addr) (l : List Value) : Res :=
  ⟨if l.length = 0 then [] else [aB a], fun w => Rds w a l, fun w w' h hw => rds_loc hw (fun hl => h _ (by rw [if_neg (by omega)]; exact List.mem_singleton.2 rfl))⟩
theorem rdrR {w0 : World} {D : List Nat} {L M : List Res} {a : Option Addr} {l : List Value} (hp : Pick L (rdr a l) M) : ∀ w, SH w0 D L w → Rds w a l := fun w hs => hs.get hp
theorem SH.toRdr {w0 w : World} {D : List Nat} {L M : List Res} {a : Option Addr} {cap m sz : Nat} {t : TypeId} {l : List Value} (hp : Pick L (osl a cap m sz t l) M) (h : SH w0 D L w) : SH w0 D (rdr a l :: M) w := by
  have h1 := h.pick hp
  have h2 := List.pairwise_cons.1 h1.disj
  have hfp : ∀ b, b ∈ (rdr a l).fp → b ∈ (osl a cap m sz t l).fp := fun b hb => by
    by_cases e : l.length = 0
    · simp [rdr, e] at hb
    · have hb2 : b = aB a := by simpa [rdr, e] using hb
      subst hb2
      exact osl_blk (h1.ok _ List.mem_cons_self) (by omega)
  refine ⟨h1.os, h1.tape, h1.output, h1.size, h1.old, ?_, ?_, ?_⟩
  · intro p hp'
    rcases List.mem_cons.1 hp' with rfl | hp'
    · exact osl_rds (h1.ok _ List.mem_cons_self)
    · exact h1.ok p (List.mem_cons_of_mem _ hp')
  · intro p hp' b hb
    rcases List.mem_cons.1 hp' with rfl | hp'
    · exact h1.own _ List.mem_cons_self b (hfp b hb)
    · exact h1.own p (List.mem_cons_of_mem _ hp') b hb
  · refine List.pairwise_cons.2 ⟨fun q hq b hb => h2.1 q hq b (hfp b hb), h2.2⟩
theorem subA_aB (a : Option Addr) (c k z : Nat) : aB (subA a c k z) = aB a := by
  unfold subA
  split
  · rfl
  · cases a with
    | none => rfl
    | some p => obtain ⟨b, o, z2⟩ := p; simp [aB, Addr.add]; split <;> rfl
theorem rdr_sub {a : Option Addr} {c k sz : Nat} {l l2 : List Value} (hc : l.length ≤ c * sz) (h2 : l2 = l.drop (k * sz)) (hs : 0 < sz) : (rdr a l).le (rdr (subA a c k sz) l2) := by
  refine ⟨fun b hb => ?_, fun w hw => ?_⟩
  · by_cases e : l2.length = 0
    · simp [rdr, e] at hb
    · have hb2 : b = aB (subA a c k sz) := by simpa [rdr, e] using hb
      have e2 : ¬ l.length = 0 := fun h => e (by rw [h2, List.length_drop]; omega)
      rw [subA_aB] at hb2
      simp [rdr, e2, hb2]
  · have h3 : Rds w a l := hw
    show Rds w (subA a c k sz) l2
    have h4 := h3.sub (cap := c) (lo := k) (hi := c) (sz := sz) (Nat.le_refl _)
    rw [h2]
    rw [List.take_of_length_le] at h4
    · exact h4
    · rw [List.length_drop, Nat.sub_mul]
      omega
theorem SH.join {w0 w : World} {D : List Nat} {p q r : Res} {N : List Res} (h : SH w0 D (p :: q :: N) w) (hf : ∀ b ∈ r.fp, b ∈ p.fp ∨ b ∈ q.fp) (ho : r.ok w) : SH w0 D (r :: N) w := by
  have h1 := List.pairwise_cons.1 h.disj
  have h2 := List.pairwise_cons.1 h1.2
  refine ⟨h.os, h.tape, h.output, h.size, h.old, ?_, ?_, ?_⟩
  · intro x hx
    rcases List.mem_cons.1 hx with rfl | hx
    · exact ho
    · exact h.ok x (List.mem_cons_of_mem _ (List.mem_cons_of_mem _ hx))
  · intro x hx b hb
    rcases List.mem_cons.1 hx with rfl | hx
    · rcases hf b hb with h3 | h3
      · exact h.own p List.mem_cons_self b h3
      · exact h.own q (List.mem_cons_of_mem _ List.mem_cons_self) b h3
    · exact h.own x (List.mem_cons_of_mem _ (List.mem_cons_of_mem _ hx)) b hb
  · refine List.pairwise_cons.2 ⟨fun x hx b hb hb2 => ?_, h2.2⟩
    rcases hf b hb with h3 | h3
    · exact h1.1 x (List.mem_cons_of_mem _ hx) b h3 hb2
    · exact h2.1 x hx b h3 hb2
end Go.Proofs.Ytldkjjnjdjfipaa
