/- Plain: the bitonic network on blocks sorts, said by counts. It states nothing of the program. -/
import Derived.Test.YtldkjjnjdjfipaaCore
namespace Go.Proofs.Ytldkjjnjdjfipaa.Bit
set_option linter.unusedVariables false
set_option linter.unusedSimpArgs false

/-- how much of [x, y) lies in the window of S from q on -/
def win (S x y q : Nat) : Nat := min y (q + S) - max x q
def frm (S x y : Nat) (c : Bool) (q : Nat) : Nat := if c then S - win S x y q else win S x y q
def cnt (N x y : Nat) (c : Bool) : Nat := if c then N - (y - x) else y - x
/-- counts of n blocks of S: an interval, or all but one; L: their sum -/
def Form (S n : Nat) (f : Nat → Nat) (L : Nat) : Prop := ∃ x y c, x ≤ y ∧ y ≤ n * S ∧ L = cnt (n * S) x y c ∧ ∀ i, i < n → f i = frm S x y c (i * S)
def SrtU (S n : Nat) (f : Nat → Nat) (L : Nat) : Prop := L ≤ n * S ∧ ∀ i, i < n → f i = min S (L - i * S)
def SrtD (S n : Nat) (f : Nat → Nat) (L : Nat) : Prop := L ≤ n * S ∧ ∀ i, i < n → f i = min S (L - (n - 1 - i) * S)

theorem blk_le {i h S : Nat} (hi : i < h) : i * S + S ≤ h * S := by
  have := Nat.mul_le_mul_right S (show i + 1 ≤ h by omega)
  rw [Nat.succ_mul] at this; exact this

def HalfOK (S H x y : Nat) (x1 y1 : Nat) (c1 : Bool) (x2 y2 : Nat) (c2 : Bool) : Prop :=
  x1 ≤ y1 ∧ y1 ≤ H ∧ min (y - x) H = cnt H x1 y1 c1 ∧ x2 ≤ y2 ∧ y2 ≤ H ∧ (y - x) - H = cnt H x2 y2 c2 ∧
  ∀ q, q + S ≤ H → min S (win S x y q + win S x y (H + q)) = frm S x1 y1 c1 q ∧ win S x y q + win S x y (H + q) - S = frm S x2 y2 c2 q
theorem half1 {S H x y : Nat} (hxy : x ≤ y) (h1 : y ≤ H) : HalfOK S H x y x y false 0 0 false := by
  refine ⟨hxy, h1, ?_, Nat.le_refl _, Nat.zero_le _, ?_, fun q hq => ⟨?_, ?_⟩⟩ <;> simp only [cnt, frm, win, Bool.false_eq_true, if_false] <;> omega
theorem half2 {S H x y : Nat} (hxy : x ≤ y) (hy : y ≤ 2 * H) (h3 : H ≤ x) : HalfOK S H x y (x - H) (y - H) false 0 0 false := by
  refine ⟨by omega, by omega, ?_, Nat.le_refl _, Nat.zero_le _, ?_, fun q hq => ⟨?_, ?_⟩⟩ <;> simp only [cnt, frm, win, Bool.false_eq_true, if_false] <;> omega
theorem half3 {S H x y : Nat} (hy : y ≤ 2 * H) (h1 : H < y) (h3 : x < H) (h4 : y - x ≤ H) : HalfOK S H x y (y - H) x true 0 0 false := by
  refine ⟨by omega, by omega, ?_, Nat.le_refl _, Nat.zero_le _, ?_, fun q hq => ⟨?_, ?_⟩⟩ <;> simp only [cnt, frm, win, Bool.false_eq_true, if_false, if_true] <;> omega
theorem half4 {S H x y : Nat} (hy : y ≤ 2 * H) (h1 : H < y) (h3 : x < H) (h4 : H < y - x) : HalfOK S H x y 0 H false x (y - H) false := by
  refine ⟨by omega, by omega, ?_, by omega, by omega, ?_, fun q hq => ⟨?_, ?_⟩⟩ <;> simp only [cnt, frm, win, Bool.false_eq_true, if_false, if_true] <;> omega
theorem halfs {S H x y : Nat} (hxy : x ≤ y) (hy : y ≤ 2 * H) : ∃ x1 y1 c1 x2 y2 c2, HalfOK S H x y x1 y1 c1 x2 y2 c2 := by
  by_cases h1 : y ≤ H
  · exact ⟨_, _, _, _, _, _, half1 hxy h1⟩
  · by_cases h3 : H ≤ x
    · exact ⟨_, _, _, _, _, _, half2 hxy hy h3⟩
    · by_cases h4 : y - x ≤ H
      · exact ⟨_, _, _, _, _, _, half3 hy (by omega) (by omega) h4⟩
      · exact ⟨_, _, _, _, _, _, half4 hy (by omega) (by omega) (by omega)⟩
theorem win_le (S x y q : Nat) : win S x y q ≤ S := by unfold win; omega
theorem frm_le (S x y : Nat) (c : Bool) (q : Nat) : frm S x y c q ≤ S := by unfold frm; have := win_le S x y q; split <;> omega
theorem frm_not (S x y : Nat) (c : Bool) (q : Nat) : frm S x y (!c) q = S - frm S x y c q := by
  have := win_le S x y q
  cases c <;> simp [frm] <;> omega
theorem cnt_not (N x y : Nat) (c : Bool) (h : y ≤ N) : cnt N x y (!c) = N - cnt N x y c := by
  cases c <;> simp [cnt] <;> omega

theorem half {S h L : Nat} {f lo hi : Nat → Nat} (hf : Form S (2 * h) f L) (hlo : ∀ i, i < h → lo i = min S (f i + f (h + i))) (hhi : ∀ i, i < h → hi i = f i + f (h + i) - S) :
    Form S h lo (min L (h * S)) ∧ Form S h hi (L - h * S) := by
  obtain ⟨x, y, c, hxy, hy, hL, hfi⟩ := hf
  have h2 : 2 * h * S = 2 * (h * S) := Nat.mul_assoc _ _ _
  rw [h2] at hy hL
  obtain ⟨x1, y1, c1, x2, y2, c2, a1, a2, a3, b1, b2, b3, hq⟩ := halfs (S := S) hxy hy
  have key : ∀ i, i < h → i * S + S ≤ h * S ∧ f i = frm S x y c (i * S) ∧ f (h + i) = frm S x y c (h * S + i * S) := fun i hi => by
    have e1 := hfi i (by omega)
    have e2 := hfi (h + i) (by omega)
    rw [Nat.add_mul] at e2
    exact ⟨blk_le hi, e1, e2⟩
  cases c with
  | false =>
    refine ⟨⟨x1, y1, c1, a1, a2, ?_, fun i hi' => ?_⟩, ⟨x2, y2, c2, b1, b2, ?_, fun i hi' => ?_⟩⟩
    · rw [← a3, hL]; rfl
    · obtain ⟨k1, k2, k3⟩ := key i hi'
      rw [hlo i hi', k2, k3, ← (hq _ k1).1]; rfl
    · rw [← b3, hL]; rfl
    · obtain ⟨k1, k2, k3⟩ := key i hi'
      rw [hhi i hi', k2, k3, ← (hq _ k1).2]; rfl
  | true =>
    have hL' : L = 2 * (h * S) - (y - x) := hL
    have e : ∀ q, frm S x y true q = S - win S x y q := fun q => rfl
    refine ⟨⟨x2, y2, !c2, b1, b2, ?_, fun i hi' => ?_⟩, ⟨x1, y1, !c1, a1, a2, ?_, fun i hi' => ?_⟩⟩
    · rw [cnt_not _ _ _ _ b2, ← b3, hL']; omega
    · obtain ⟨k1, k2, k3⟩ := key i hi'
      have w1 := win_le S x y (i * S)
      have w2 := win_le S x y (h * S + i * S)
      rw [hlo i hi', k2, k3, frm_not, ← (hq _ k1).2, e, e]; omega
    · rw [cnt_not _ _ _ _ a2, ← a3, hL']; omega
    · obtain ⟨k1, k2, k3⟩ := key i hi'
      have w1 := win_le S x y (i * S)
      have w2 := win_le S x y (h * S + i * S)
      rw [hhi i hi', k2, k3, frm_not, ← (hq _ k1).1, e, e]; omega

theorem form_one {S L : Nat} {f : Nat → Nat} (h : Form S 1 f L) : f 0 = L ∧ L ≤ S := by
  obtain ⟨x, y, c, hxy, hy, hL, hf⟩ := h
  have := hf 0 (by omega)
  rw [Nat.one_mul] at hy hL
  rw [Nat.zero_mul] at this
  cases c <;> simp only [cnt, frm, win, Bool.false_eq_true, if_false, if_true] at * <;> omega

theorem srtU_join {S h L : Nat} {f : Nat → Nat} (h1 : SrtU S h f (min L (h * S))) (h2 : SrtU S h (fun i => f (h + i)) (L - h * S)) : SrtU S (2 * h) f L := by
  have e : 2 * h * S = 2 * (h * S) := Nat.mul_assoc _ _ _
  refine ⟨by have := h2.1; rw [e]; omega, fun i hi => ?_⟩
  by_cases hh : i < h
  · rw [h1.2 i hh]; have := blk_le (S := S) hh; omega
  · have := h2.2 (i - h) (by omega)
    simp only [show h + (i - h) = i by omega] at this
    rw [this]
    have e2 : i * S = h * S + (i - h) * S := by rw [← Nat.add_mul]; congr 1; omega
    rw [e2]; omega
theorem srtD_join {S h L : Nat} {f : Nat → Nat} (h1 : SrtD S h f (L - h * S)) (h2 : SrtD S h (fun i => f (h + i)) (min L (h * S))) : SrtD S (2 * h) f L := by
  have e : 2 * h * S = 2 * (h * S) := Nat.mul_assoc _ _ _
  refine ⟨by have := h1.1; rw [e]; omega, fun i hi => ?_⟩
  by_cases hh : i < h
  · rw [h1.2 i hh]
    have e2 : (2 * h - 1 - i) * S = h * S + (h - 1 - i) * S := by rw [← Nat.add_mul]; congr 1; omega
    rw [e2]; omega
  · have := h2.2 (i - h) (by omega)
    simp only [show h + (i - h) = i by omega] at this
    rw [this, show h - 1 - (i - h) = 2 * h - 1 - i by omega]
    have := blk_le (S := S) (show 2 * h - 1 - i < h by omega)
    omega
theorem form_of {S h A B : Nat} {f : Nat → Nat} (h1 : SrtU S h f A) (h2 : SrtD S h (fun i => f (h + i)) B) : Form S (2 * h) f (A + B) := by
  have e : 2 * h * S = 2 * (h * S) := Nat.mul_assoc _ _ _
  have hA := h1.1
  have hB := h2.1
  refine ⟨A, 2 * (h * S) - B, true, by omega, by rw [e]; omega, by rw [e]; simp only [cnt, if_true]; omega, fun i hi => ?_⟩
  by_cases hh : i < h
  · rw [h1.2 i hh]; have := blk_le (S := S) hh; simp only [frm, win, if_true]; omega
  · have := h2.2 (i - h) (by omega)
    simp only [show h + (i - h) = i by omega] at this
    rw [this]
    have e2 : i * S = h * S + (i - h) * S := by rw [← Nat.add_mul]; congr 1; omega
    have e3 : (h - 1 - (i - h)) * S + (i - h) * S + S = h * S := by rw [← Nat.add_mul, ← Nat.succ_mul]; congr 1; omega
    have := blk_le (S := S) (show i - h < h by omega)
    rw [e2]
    simp only [frm, win, if_true]
    omega

/-! ### rounds -/
/-- a round: step t of stage s, on counts -/
def rnd (S s t : Nat) (z : Nat → Nat) (a : Nat) : Nat :=
  if a / 2 ^ (t - 1) % 2 = 0 then (if a / 2 ^ s % 2 = 0 then min S (z a + z (a + 2 ^ (t - 1))) else z a + z (a + 2 ^ (t - 1)) - S)
  else (if a / 2 ^ s % 2 = 0 then z (a - 2 ^ (t - 1)) + z a - S else min S (z (a - 2 ^ (t - 1)) + z a))
/-- steps t, t - 1, .., 1 of stage s -/
def mrg (S s : Nat) : Nat → (Nat → Nat) → Nat → Nat
  | 0, z => z
  | t + 1, z => mrg S s t (rnd S s (t + 1) z)

theorem div_grp {t s g i : Nat} (ht : t ≤ s) (hi : i < 2 ^ t) : (g * 2 ^ t + i) / 2 ^ s = g / 2 ^ (s - t) := by
  have e : 2 ^ s = 2 ^ t * 2 ^ (s - t) := by rw [← Nat.pow_add]; congr 1; omega
  rw [e, ← Nat.div_div_eq_div_mul]
  congr 1
  rw [Nat.add_comm, Nat.add_mul_div_right _ _ (Nat.two_pow_pos t), Nat.div_eq_of_lt hi, Nat.zero_add]

theorem mrg_srt {S s : Nat} : ∀ (t : Nat), t ≤ s → ∀ (g : Nat) (z : Nat → Nat) (L : Nat), Form S (2 ^ t) (fun i => z (g * 2 ^ t + i)) L →
    (g / 2 ^ (s - t) % 2 = 0 → SrtU S (2 ^ t) (fun i => mrg S s t z (g * 2 ^ t + i)) L) ∧ (g / 2 ^ (s - t) % 2 = 1 → SrtD S (2 ^ t) (fun i => mrg S s t z (g * 2 ^ t + i)) L)
  | 0, _, g, z, L, hf => by
    obtain ⟨h1, h2⟩ := form_one hf
    simp only [Nat.pow_zero, Nat.mul_one, Nat.add_zero] at h1
    refine ⟨fun _ => ⟨by simpa using h2, fun i hi => ?_⟩, fun _ => ⟨by simpa using h2, fun i hi => ?_⟩⟩ <;>
    · obtain rfl : i = 0 := by simpa using hi
      simp only [mrg, Nat.pow_zero, Nat.mul_one, Nat.add_zero, h1, Nat.zero_mul]
      omega
  | t + 1, ht, g, z, L, hf => by
    have ep : 2 ^ (t + 1) = 2 * 2 ^ t := by rw [Nat.pow_succ, Nat.mul_comm]
    have eb : g * 2 ^ (t + 1) = 2 * g * 2 ^ t := by rw [ep, ← Nat.mul_assoc, Nat.mul_comm g 2]
    have eb2 : g * 2 ^ (t + 1) + 2 ^ t = (2 * g + 1) * 2 ^ t := by rw [eb, Nat.add_mul, Nat.one_mul]
    have hs : ∀ x, x < 2 → (2 * g + x) / 2 ^ (s - t) = g / 2 ^ (s - (t + 1)) := fun x hx => by
      have e : 2 ^ (s - t) = 2 * 2 ^ (s - (t + 1)) := by rw [← Nat.pow_succ']; congr 1; omega
      rw [e, ← Nat.div_div_eq_div_mul]
      congr 1
      omega
    have bit0 : ∀ i, i < 2 ^ t → (g * 2 ^ (t + 1) + i) / 2 ^ t % 2 = 0 := fun i hi => by
      rw [eb, div_grp (Nat.le_refl t) hi, Nat.sub_self, Nat.pow_zero, Nat.div_one]; omega
    have bit1 : ∀ i, i < 2 ^ t → (g * 2 ^ (t + 1) + (2 ^ t + i)) / 2 ^ t % 2 = 1 := fun i hi => by
      rw [← Nat.add_assoc, eb2, div_grp (Nat.le_refl t) hi, Nat.sub_self, Nat.pow_zero, Nat.div_one]; omega
    have top : ∀ i, i < 2 * 2 ^ t → (g * 2 ^ (t + 1) + i) / 2 ^ s = g / 2 ^ (s - (t + 1)) := fun i hi => div_grp ht (by rw [ep]; exact hi)
    rw [ep] at hf
    refine ⟨fun hd => ?_, fun hd => ?_⟩
    · have hh := half (lo := fun i => rnd S s (t + 1) z (g * 2 ^ (t + 1) + i)) (hi := fun i => rnd S s (t + 1) z (g * 2 ^ (t + 1) + (2 ^ t + i))) hf
        (fun i hi => by
          simp only [rnd, Nat.add_sub_cancel]
          rw [if_pos (bit0 i hi), if_pos (by rw [top i (by omega)]; exact hd)]
          simp only [ep, Nat.add_assoc, Nat.add_comm, Nat.add_left_comm])
        (fun i hi => by
          simp only [rnd, Nat.add_sub_cancel]
          rw [if_neg (by rw [bit1 i hi]; decide), if_pos (by rw [top _ (by omega)]; exact hd)]
          rw [show g * 2 ^ (t + 1) + (2 ^ t + i) - 2 ^ t = g * 2 ^ (t + 1) + i by omega]
          simp only [ep])
      have h1 := (mrg_srt (S := S) (s := s) t (by omega) (2 * g) (rnd S s (t + 1) z) _ (by rw [← eb]; exact hh.1)).1 (by have := hs 0 (by omega); rw [Nat.add_zero] at this; rw [this]; exact hd)
      have h2 := (mrg_srt (S := S) (s := s) t (by omega) (2 * g + 1) (rnd S s (t + 1) z) _ (by rw [← eb2]; simpa only [Nat.add_assoc] using hh.2)).1 (by rw [hs 1 (by omega)]; exact hd)
      rw [ep]
      rw [← eb] at h1
      rw [← eb2] at h2
      refine srtU_join (by simpa only [mrg, ep] using h1) (by simpa only [mrg, ep, Nat.add_assoc] using h2)
    · have hh := half (lo := fun i => rnd S s (t + 1) z (g * 2 ^ (t + 1) + (2 ^ t + i))) (hi := fun i => rnd S s (t + 1) z (g * 2 ^ (t + 1) + i)) hf
        (fun i hi => by
          simp only [rnd, Nat.add_sub_cancel]
          rw [if_neg (by rw [bit1 i hi]; decide), if_neg (by rw [top _ (by omega), hd]; decide)]
          rw [show g * 2 ^ (t + 1) + (2 ^ t + i) - 2 ^ t = g * 2 ^ (t + 1) + i by omega]
          simp only [ep])
        (fun i hi => by
          simp only [rnd, Nat.add_sub_cancel]
          rw [if_pos (bit0 i hi), if_neg (by rw [top i (by omega), hd]; decide)]
          simp only [ep, Nat.add_assoc, Nat.add_comm, Nat.add_left_comm])
      have h1 := (mrg_srt (S := S) (s := s) t (by omega) (2 * g) (rnd S s (t + 1) z) _ (by rw [← eb]; exact hh.2)).2 (by have := hs 0 (by omega); rw [Nat.add_zero] at this; rw [this]; exact hd)
      have h2 := (mrg_srt (S := S) (s := s) t (by omega) (2 * g + 1) (rnd S s (t + 1) z) _ (by rw [← eb2]; simpa only [Nat.add_assoc] using hh.1)).2 (by rw [hs 1 (by omega)]; exact hd)
      rw [ep]
      rw [← eb] at h1
      rw [← eb2] at h2
      refine srtD_join (by simpa only [mrg, ep] using h1) (by simpa only [mrg, ep, Nat.add_assoc] using h2)

/-- stages 1 .. s -/
def stg (S : Nat) (z : Nat → Nat) : Nat → Nat → Nat
  | 0 => z
  | s + 1 => mrg S (s + 1) (s + 1) (stg S z s)

theorem stg_srt {S : Nat} {z : Nat → Nat} (hz : ∀ a, z a ≤ S) : ∀ (s g : Nat), ∃ L, (g % 2 = 0 → SrtU S (2 ^ s) (fun i => stg S z s (g * 2 ^ s + i)) L) ∧ (g % 2 = 1 → SrtD S (2 ^ s) (fun i => stg S z s (g * 2 ^ s + i)) L)
  | 0, g => ⟨z g, fun _ => ⟨by simpa using hz g, fun i hi => by
      obtain rfl : i = 0 := by simpa using hi
      have := hz g
      simp [stg]; omega⟩, fun _ => ⟨by simpa using hz g, fun i hi => by
      obtain rfl : i = 0 := by simpa using hi
      have := hz g
      simp [stg]; omega⟩⟩
  | s + 1, g => by
    obtain ⟨A, hA, -⟩ := stg_srt hz s (2 * g)
    obtain ⟨B, -, hB⟩ := stg_srt hz s (2 * g + 1)
    have ep : 2 ^ (s + 1) = 2 * 2 ^ s := by rw [Nat.pow_succ, Nat.mul_comm]
    have eb : g * 2 ^ (s + 1) = 2 * g * 2 ^ s := by rw [ep, ← Nat.mul_assoc, Nat.mul_comm g 2]
    have hf : Form S (2 ^ (s + 1)) (fun i => stg S z s (g * 2 ^ (s + 1) + i)) (A + B) := by
      rw [ep]
      refine form_of (by have := hA (by omega); rw [← eb, ep] at this; exact this) ?_
      have := hB (by omega)
      rw [Nat.add_mul, Nat.one_mul, ← eb, ep] at this
      simpa only [Nat.add_assoc] using this
    have := mrg_srt (S := S) (s := s + 1) (s + 1) (Nat.le_refl _) g (stg S z s) (A + B) hf
    rw [Nat.sub_self, Nat.pow_zero, Nat.div_one] at this
    exact ⟨A + B, this.1, this.2⟩

/-- behind all stages the counts fall, block behind block -/
theorem stg_all {S : Nat} {z : Nat → Nat} (hz : ∀ a, z a ≤ S) (K : Nat) : ∃ L, ∀ i, i < 2 ^ K → stg S z K i = min S (L - i * S) := by
  obtain ⟨L, h, -⟩ := stg_srt hz K 0
  refine ⟨L, fun i hi => ?_⟩
  have := (h rfl).2 i hi
  simpa using this

/-! ### rounds by their numbers -/
def tri (s : Nat) : Nat := s * (s + 1) / 2
theorem tri_succ (s : Nat) : tri (s + 1) = tri s + (s + 1) := by
  unfold tri
  rw [show (s + 1) * (s + 1 + 1) = s * (s + 1) + (s + 1) * 2 by rw [Nat.add_mul s 1, Nat.one_mul, Nat.mul_add s, Nat.mul_add s]; omega, Nat.add_mul_div_right _ _ (by decide)]
/-- j steps of stage s -/
def part (S s : Nat) (z : Nat → Nat) : Nat → Nat → Nat
  | 0 => z
  | j + 1 => rnd S s (s - j) (part S s z j)
theorem part_mrg (S s : Nat) (z : Nat → Nat) : ∀ j, j ≤ s → mrg S s (s - j) (part S s z j) = mrg S s s z
  | 0, _ => rfl
  | j + 1, h => by
    have := part_mrg S s z j (by omega)
    rw [← this]
    obtain ⟨u, hu⟩ : ∃ u, s - j = u + 1 := ⟨s - j - 1, by omega⟩
    rw [hu, show s - (j + 1) = u by omega]
    show mrg S s u (rnd S s (s - j) (part S s z j)) = mrg S s u (rnd S s (u + 1) (part S s z j))
    rw [hu]
theorem part_all (S s : Nat) (z : Nat → Nat) : part S s z s = mrg S s s z := by
  have := part_mrg S s z s (Nat.le_refl _)
  rwa [Nat.sub_self] at this
/-- what is run round by round, each by its stage and its step, is the stages -/
theorem run_stg {S K : Nat} {st : Nat → Nat × Nat} {run : Nat → Nat → Nat} (hst : ∀ s j, s < K → j ≤ s → st (tri s + j) = (s + 1, s + 1 - j)) (hrun : ∀ r, r < tri K → run (r + 1) = rnd S (st r).1 (st r).2 (run r)) :
    ∀ s, s ≤ K → run (tri s) = stg S (run 0) s
  | 0, _ => rfl
  | s + 1, h => by
    have ih := run_stg hst hrun s (by omega)
    have mono : ∀ a b, a ≤ b → tri a ≤ tri b := fun a b hab => by
      induction hab with
      | refl => exact Nat.le_refl _
      | step _ ih => rw [tri_succ]; omega
    have hj : ∀ j, j ≤ s + 1 → run (tri s + j) = part S (s + 1) (run (tri s)) j := fun j => by
      induction j with
      | zero => intro _; rfl
      | succ j ihj =>
        intro hle
        have hlt : tri s + j < tri K := by have := mono (s + 1) K h; rw [tri_succ] at this; omega
        rw [← Nat.add_assoc, hrun _ hlt, hst s j (by omega) (by omega), ihj (by omega)]
        rfl
    rw [tri_succ, hj (s + 1) (Nat.le_refl _), part_all, ih]
    rfl

theorem tri_mono {a b : Nat} (h : a ≤ b) : tri a ≤ tri b := by
  induction h with
  | refl => exact Nat.le_refl _
  | step _ ih => rw [tri_succ]; omega
theorem tri_find : ∀ (K r : Nat), r < tri K → ∃ s j, s < K ∧ j ≤ s ∧ r = tri s + j
  | 0, r, h => by simp [tri] at h
  | K + 1, r, h => by
    by_cases hr : r < tri K
    · obtain ⟨s, j, h1, h2, h3⟩ := tri_find K r hr
      exact ⟨s, j, by omega, h2, h3⟩
    · rw [tri_succ] at h
      exact ⟨K, r - tri K, by omega, by omega, by omega⟩

/-! ### pairs of a round, one by one -/
/-- the first places of pairs that are d apart -/
def firsts (n d : Nat) : List Nat := (List.range n).filter fun a => decide (a / d % 2 = 0)
theorem firsts_succ (n d : Nat) : firsts (n + 1) d = if n / d % 2 = 0 then firsts n d ++ [n] else firsts n d := by
  unfold firsts
  rw [List.range_succ, List.filter_append]
  by_cases h : n / d % 2 = 0 <;> simp [h]

theorem partner_lt {K t a : Nat} (ht : 1 ≤ t) (hK : t ≤ K) (ha : a < 2 ^ K) (h0 : a / 2 ^ (t - 1) % 2 = 0) : a + 2 ^ (t - 1) < 2 ^ K := by
  have e : 2 ^ K = 2 * 2 ^ (K - t) * 2 ^ (t - 1) := by
    rw [← Nat.pow_succ', ← Nat.pow_add]; congr 1; omega
  rw [e] at ha ⊢
  have hp := Nat.two_pow_pos (t - 1)
  have h1 : a / 2 ^ (t - 1) < 2 * 2 ^ (K - t) := (Nat.div_lt_iff_lt_mul hp).2 ha
  refine (Nat.div_lt_iff_lt_mul hp).1 ?_
  rw [Nat.add_div_right _ hp]
  omega
theorem partner_ge {t a : Nat} (h1 : a / 2 ^ (t - 1) % 2 = 1) : 2 ^ (t - 1) ≤ a := by
  have hp := Nat.two_pow_pos (t - 1)
  rcases Nat.lt_or_ge a (2 ^ (t - 1)) with h | h
  · rw [Nat.div_eq_of_lt h] at h1; cases h1
  · exact h
theorem partner_bit {t a : Nat} (h1 : a / 2 ^ (t - 1) % 2 = 1) : (a - 2 ^ (t - 1)) / 2 ^ (t - 1) % 2 = 0 := by
  have hp := Nat.two_pow_pos (t - 1)
  have hg := partner_ge h1
  have e : a / 2 ^ (t - 1) = (a - 2 ^ (t - 1)) / 2 ^ (t - 1) + 1 := by
    rw [← Nat.add_div_right _ hp, Nat.sub_add_cancel hg]
  omega
theorem partner_bit0 {t a : Nat} (h1 : a / 2 ^ (t - 1) % 2 = 0) : (a + 2 ^ (t - 1)) / 2 ^ (t - 1) % 2 = 1 := by
  rw [Nat.add_div_right _ (Nat.two_pow_pos _)]; omega
theorem partner_out {K t a : Nat} (ht : 1 ≤ t) (hK : t ≤ K) (ha : 2 ^ K ≤ a) (h1 : a / 2 ^ (t - 1) % 2 = 1) : 2 ^ K ≤ a - 2 ^ (t - 1) := by
  have hb := partner_bit h1
  have hg := partner_ge h1
  rcases Nat.lt_or_ge (a - 2 ^ (t - 1)) (2 ^ K) with h | h
  · have := partner_lt ht hK h hb; omega
  · exact h
theorem partner_dir {s t a : Nat} (ht : 1 ≤ t) (hts : t ≤ s) (h1 : a / 2 ^ (t - 1) % 2 = 0) : (a + 2 ^ (t - 1)) / 2 ^ s = a / 2 ^ s := by
  have e : 2 ^ s = 2 ^ (t - 1) * (2 * 2 ^ (s - t)) := by
    rw [← Nat.pow_succ', ← Nat.pow_add]; congr 1; omega
  rw [e, ← Nat.div_div_eq_div_mul, ← Nat.div_div_eq_div_mul, Nat.add_div_right _ (Nat.two_pow_pos _), ← Nat.div_div_eq_div_mul, ← Nat.div_div_eq_div_mul]
  congr 1
  omega

/-- one pair's work, on counts -/
def pairZ (S d : Nat) (up : Bool) (a : Nat) (z : Nat → Nat) (c : Nat) : Nat :=
  if c = a then (if up then min S (z a + z (a + d)) else z a + z (a + d) - S) else if c = a + d then (if up then z a + z (a + d) - S else min S (z a + z (a + d))) else z c

theorem fold_firsts {T : Type} {inv : T → Prop} {ζ : T → Nat → Nat} {S s t K : Nat} {step : T → Nat → T} (ht : 1 ≤ t) (hts : t ≤ s) (hK : t ≤ K)
    (hstep : ∀ X a, inv X → a + 2 ^ (t - 1) < 2 ^ K → a / 2 ^ (t - 1) % 2 = 0 → inv (step X a) ∧ ∀ c, ζ (step X a) c = pairZ S (2 ^ (t - 1)) (decide (a / 2 ^ s % 2 = 0)) a (ζ X) c) (X : T) (hX : inv X) : ∀ n, n ≤ 2 ^ K →
    inv ((firsts n (2 ^ (t - 1))).foldl step X) ∧ ∀ c, ζ ((firsts n (2 ^ (t - 1))).foldl step X) c = if (c / 2 ^ (t - 1) % 2 = 0 ∧ c < n) ∨ (c / 2 ^ (t - 1) % 2 = 1 ∧ c - 2 ^ (t - 1) < n) then rnd S s t (ζ X) c else ζ X c
  | 0, _ => ⟨hX, fun c => by simp [firsts]⟩
  | n + 1, hn => by
    obtain ⟨ih1, ih2⟩ := fold_firsts ht hts hK hstep X hX n (by omega)
    rw [firsts_succ]
    by_cases h0 : n / 2 ^ (t - 1) % 2 = 0
    · rw [if_pos h0, List.foldl_append]
      obtain ⟨a1, a2⟩ := hstep _ n ih1 (partner_lt ht hK (by omega) h0) h0
      refine ⟨a1, fun c => ?_⟩
      have hpb := partner_bit0 h0
      have hpd := partner_dir ht hts h0
      show ζ (step ((firsts n (2 ^ (t - 1))).foldl step X) n) c = _
      rw [a2 c]
      unfold pairZ
      have e1 : ζ ((firsts n (2 ^ (t - 1))).foldl step X) n = ζ X n := by
        rw [ih2 n, if_neg]
        omega
      have e2 : ζ ((firsts n (2 ^ (t - 1))).foldl step X) (n + 2 ^ (t - 1)) = ζ X (n + 2 ^ (t - 1)) := by
        rw [ih2, if_neg]
        omega
      rw [e1, e2]
      by_cases hc : c = n
      · subst hc
        rw [if_pos rfl, if_pos (show (c / 2 ^ (t - 1) % 2 = 0 ∧ c < c + 1) ∨ (c / 2 ^ (t - 1) % 2 = 1 ∧ c - 2 ^ (t - 1) < c + 1) from .inl ⟨h0, by omega⟩)]
        unfold rnd
        rw [if_pos h0]
        by_cases hu : c / 2 ^ s % 2 = 0 <;> simp [hu]
      · rw [if_neg hc]
        by_cases hc2 : c = n + 2 ^ (t - 1)
        · subst hc2
          rw [if_pos rfl, if_pos (show ((n + 2 ^ (t - 1)) / 2 ^ (t - 1) % 2 = 0 ∧ n + 2 ^ (t - 1) < n + 1) ∨ ((n + 2 ^ (t - 1)) / 2 ^ (t - 1) % 2 = 1 ∧ n + 2 ^ (t - 1) - 2 ^ (t - 1) < n + 1) from .inr ⟨hpb, by omega⟩)]
          unfold rnd
          rw [if_neg (show ¬ (n + 2 ^ (t - 1)) / 2 ^ (t - 1) % 2 = 0 by rw [hpb]; decide), hpd, Nat.add_sub_cancel]
          by_cases hu : n / 2 ^ s % 2 = 0 <;> simp [hu]
        · rw [if_neg hc2, ih2 c]
          have : ((c / 2 ^ (t - 1) % 2 = 0 ∧ c < n) ∨ (c / 2 ^ (t - 1) % 2 = 1 ∧ c - 2 ^ (t - 1) < n)) ↔ ((c / 2 ^ (t - 1) % 2 = 0 ∧ c < n + 1) ∨ (c / 2 ^ (t - 1) % 2 = 1 ∧ c - 2 ^ (t - 1) < n + 1)) := by
            have hg : c / 2 ^ (t - 1) % 2 = 1 → 2 ^ (t - 1) ≤ c := partner_ge
            omega
          simp only [this]
    · rw [if_neg h0]
      refine ⟨ih1, fun c => ?_⟩
      rw [ih2 c]
      have : ((c / 2 ^ (t - 1) % 2 = 0 ∧ c < n) ∨ (c / 2 ^ (t - 1) % 2 = 1 ∧ c - 2 ^ (t - 1) < n)) ↔ ((c / 2 ^ (t - 1) % 2 = 0 ∧ c < n + 1) ∨ (c / 2 ^ (t - 1) % 2 = 1 ∧ c - 2 ^ (t - 1) < n + 1)) := by
        have hg : c / 2 ^ (t - 1) % 2 = 1 → 2 ^ (t - 1) ≤ c := partner_ge
        have hb : c / 2 ^ (t - 1) % 2 = 1 → (c - 2 ^ (t - 1)) / 2 ^ (t - 1) % 2 = 0 := partner_bit
        have h3 : c = n → ¬ c / 2 ^ (t - 1) % 2 = 0 := fun h => h ▸ h0
        have h4 : c - 2 ^ (t - 1) = n → ¬ (c - 2 ^ (t - 1)) / 2 ^ (t - 1) % 2 = 0 := fun h => h ▸ h0
        omega
      simp only [this]

/-- rounds one behind the other -/
def netTo {T : Type} (n : Nat) (far : Nat → Nat) (step : Nat → T → Nat → T) (X : T) : Nat → T
  | 0 => X
  | r + 1 => (firsts n (far r)).foldl (step r) (netTo n far step X r)

theorem net_srt {T : Type} {inv : T → Prop} {ζ : T → Nat → Nat} {S K : Nat} {st : Nat → Nat × Nat} {step : Nat → T → Nat → T} {X : T}
    (hst : ∀ s j, s < K → j ≤ s → st (tri s + j) = (s + 1, s + 1 - j)) (hinv : inv X) (hle : ∀ X, inv X → ∀ a, ζ X a ≤ S) (hout : ∀ X, inv X → ∀ a, 2 ^ K ≤ a → ζ X a = 0)
    (hstep : ∀ r X a, r < tri K → inv X → a + 2 ^ ((st r).2 - 1) < 2 ^ K → a / 2 ^ ((st r).2 - 1) % 2 = 0 → inv (step r X a) ∧ ∀ c, ζ (step r X a) c = pairZ S (2 ^ ((st r).2 - 1)) (decide (a / 2 ^ (st r).1 % 2 = 0)) a (ζ X) c) :
    inv (netTo (2 ^ K) (fun r => 2 ^ ((st r).2 - 1)) step X (tri K)) ∧ ∃ L, ∀ i, i < 2 ^ K → ζ (netTo (2 ^ K) (fun r => 2 ^ ((st r).2 - 1)) step X (tri K)) i = min S (L - i * S) := by
  obtain ⟨run, hrun⟩ : ∃ run, run = netTo (2 ^ K) (fun r => 2 ^ ((st r).2 - 1)) step X := ⟨_, rfl⟩
  have hall : ∀ r, r ≤ tri K → inv (run r) ∧ ∀ r', r = r' + 1 → ∀ c, ζ (run r) c = rnd S (st r').1 (st r').2 (ζ (run r')) c := fun r => by
    induction r with
    | zero => exact fun _ => ⟨by rw [hrun]; exact hinv, fun r' h => by cases h⟩
    | succ r ih =>
      intro hr
      obtain ⟨h1, -⟩ := ih (by omega)
      obtain ⟨s, j, hs, hj, rfl⟩ := tri_find K r (by omega)
      have e := hst s j hs hj
      have ff := fold_firsts (inv := inv) (ζ := ζ) (S := S) (s := s + 1) (t := s + 1 - j) (K := K) (step := step (tri s + j)) (by omega) (by omega) (by omega)
        (fun X a hX h2 h3 => by have := hstep (tri s + j) X a (by omega) hX (by rw [e]; exact h2) (by rw [e]; exact h3); rw [e] at this; exact this) (run (tri s + j)) h1 (2 ^ K) (Nat.le_refl _)
      have er : run (tri s + j + 1) = (firsts (2 ^ K) (2 ^ (s + 1 - j - 1))).foldl (step (tri s + j)) (run (tri s + j)) := by
        rw [hrun]; show (firsts (2 ^ K) (2 ^ ((st (tri s + j)).2 - 1))).foldl _ _ = _; rw [e]
      rw [er]
      refine ⟨ff.1, fun r' hr' c => ?_⟩
      obtain rfl : r' = tri s + j := by omega
      rw [ff.2 c]
      simp only [e]
      split
      · rfl
      · rename_i hn
        have hc : 2 ^ K ≤ c := by
          rcases Nat.lt_or_ge c (2 ^ K) with h | h
          · rcases Nat.mod_two_eq_zero_or_one (c / 2 ^ (s + 1 - j - 1)) with h0 | h0
            · exact absurd (.inl ⟨h0, h⟩) hn
            · exact absurd (.inr ⟨h0, Nat.lt_of_le_of_lt (Nat.sub_le _ _) h⟩) hn
          · exact h
        have hz : ∀ a, 2 ^ K ≤ a → ζ (run (tri s + j)) a = 0 := hout _ h1
        have hb : c / 2 ^ (s + 1 - j - 1) % 2 = 1 → 2 ^ K ≤ c - 2 ^ (s + 1 - j - 1) := partner_out (by omega) (by omega) hc
        unfold rnd
        rw [hz c hc]
        rcases Nat.mod_two_eq_zero_or_one (c / 2 ^ (s + 1 - j - 1)) with h0 | h0
        · rw [if_pos h0, hz (c + 2 ^ (s + 1 - j - 1)) (Nat.le_add_right_of_le hc)]
          split <;> simp
        · rw [if_neg (by rw [h0]; decide), hz _ (hb h0)]
          split <;> simp
  have h2 := run_stg (S := S) (K := K) (st := st) (run := fun r => if r ≤ tri K then ζ (run r) else ζ (run 0)) hst (fun r hr => by
    show (if r + 1 ≤ tri K then ζ (run (r + 1)) else ζ (run 0)) = rnd S (st r).1 (st r).2 (if r ≤ tri K then ζ (run r) else ζ (run 0))
    rw [if_pos (by omega), if_pos (by omega)]
    exact funext ((hall (r + 1) (by omega)).2 r rfl)) K (Nat.le_refl _)
  simp only [Nat.le_refl, if_true, Nat.zero_le] at h2
  rw [← hrun]
  refine ⟨(hall _ (Nat.le_refl _)).1, ?_⟩
  rw [h2]
  exact stg_all (fun a => hle _ (hall 0 (Nat.zero_le _)).1 a) K
end Go.Proofs.Ytldkjjnjdjfipaa.Bit
