/- P17: the shape of a run: what is right, blocks and slots, the plan. Plain: no program in sight. -/
import Derived.Test.YtldkjjnjdjfipaaWPad
namespace Go.Proofs.Ytldkjjnjdjfipaa
open Go Go.RowKit
set_option linter.unusedVariables false
set_option linter.unusedSimpArgs false

structure Par where
  n0 : Int
  n1 : Int
  n2 : Int
  n3 : Int
instance : Inhabited Par := ⟨⟨0, 0, 0, 0⟩⟩
@[reducible] def parV (p : Par) : List Value := [.int .i64 p.n0, .int .i64 p.n1, .int .i64 p.n2, .int .i64 p.n3]
theorem parV_len (p : Par) : (parV p).length = 4 := rfl
theorem parV_one (p : Par) : (parV p).all Value.oneCell' = true := rfl
structure Spot where
  s0 : Int
  s1 : Int
  s2 : Int
instance : Inhabited Spot := ⟨⟨0, 0, 0⟩⟩
@[reducible] def spotV (p : Spot) : List Value := [.int .i64 p.s0, .int .i64 p.s1, .int .i64 p.s2]
theorem spotV_len (p : Spot) : (spotV p).length = 3 := rfl
theorem spotV_one (p : Spot) : (spotV p).all Value.oneCell' = true := rfl
structure Plan where
  q0 : Int
  q1 : Int
  q2 : Int
  q3 : Int
  q4 : Int
  q5 : Int
  q6 : Int
  q7 : Int
  q8 : Int
  q9 : Int
instance : Inhabited Plan := ⟨⟨0, 0, 0, 0, 0, 0, 0, 0, 0, 0⟩⟩
@[reducible] def planV (p : Plan) : List Value := [.int .i64 p.q0, .int .i64 p.q1, .int .i64 p.q2, .int .i64 p.q3, .int .i64 p.q4, .int .i64 p.q5, .int .i64 p.q6, .int .i64 p.q7, .int .i64 p.q8, .int .i64 p.q9]
theorem planV_len (p : Plan) : (planV p).length = 10 := rfl
theorem planV_one (p : Plan) : (planV p).all Value.oneCell' = true := rfl

/-- a / b rounded up, for a at least 1 -/
def cdv (a b : Int) : Int := (a - 1) / b + 1
theorem cdv_bd {a b : Int} (h0 : 1 ≤ a) (h1 : a ≤ 64) (h2 : 1 ≤ b) : 1 ≤ cdv a b ∧ cdv a b ≤ 64 := by
  unfold cdv
  have h3 : 0 ≤ (a - 1) / b := Int.ediv_nonneg (by omega) (by omega)
  have h4 : (a - 1) / b ≤ a - 1 := Int.ediv_le_self b (by omega)
  omega
theorem cdv_up {a b : Int} (h2 : 1 ≤ b) : (a + b - 1) / b = cdv a b := by
  unfold cdv
  rw [show a + b - 1 = (a - 1) + b * 1 by omega, Int.add_mul_ediv_left _ _ (by omega)]
theorem q_wrap {a b : Int} (h0 : 0 ≤ a) (h1 : a < 1000) (h2 : 1 ≤ b) : IntKind.i64.wrap (a.tdiv b) = a / b := z_quo h0 (by omega) (by omega)
theorem q_bd {a b : Int} (h0 : 1 ≤ a) (h1 : a ≤ 64) (h2 : 1 ≤ b) : 0 ≤ (a - 1) / b ∧ (a - 1) / b ≤ 63 := by have := cdv_bd h0 h1 h2; unfold cdv at this; omega
theorem up_wrap {a b : Int} (h0 : 1 ≤ a) (h1 : a ≤ 64) (h2 : 1 ≤ b) (h3 : b ≤ 8) : IntKind.i64.wrap ((a + b - 1).tdiv b) = cdv a b := by
  rw [z_quo (by omega) (by omega) (by omega)]
  exact cdv_up h2
theorem nb_bd {a c : Int} (h0 : 1 ≤ a) (h1 : a ≤ 4) (h2 : 1 ≤ c) (h3 : c ≤ 64) : 1 ≤ a * c ∧ a * c ≤ 256 := by
  have h4 : 0 < a * c := Int.mul_pos (by omega) (by omega)
  have h5 : a * c ≤ 4 * c := Int.mul_le_mul_of_nonneg_right h1 (by omega)
  omega
theorem nb_wrap {a c : Int} (h0 : 1 ≤ a) (h1 : a ≤ 4) (h2 : 1 ≤ c) (h3 : c ≤ 64) : IntKind.i64.wrap (a * c) = a * c := by
  have := nb_bd h0 h1 h2 h3
  exact wI rfl (by omega) (by omega)
theorem nb_wrap2 {a c : Int} (h0 : 1 ≤ a) (h1 : a ≤ 4) (h2 : 1 ≤ c) (h3 : c ≤ 64) : IntKind.i64.wrap (c * a) = a * c := by rw [Int.mul_comm c a]; exact nb_wrap h0 h1 h2 h3
def ok (p : Par) : Bool := decide (1 ≤ p.n0 ∧ p.n0 ≤ 64 ∧ 1 ≤ p.n1 ∧ p.n1 ≤ 4 ∧ 1 ≤ p.n2 ∧ p.n2 ≤ 8 ∧ 1 ≤ p.n3 ∧ p.n3 ≤ 4 ∧ p.n1 * cdv p.n0 p.n2 < 32)
theorem ok_bd {p : Par} (h : ok p = true) : 1 ≤ p.n0 ∧ p.n0 ≤ 64 ∧ 1 ≤ p.n1 ∧ p.n1 ≤ 4 ∧ 1 ≤ p.n2 ∧ p.n2 ≤ 8 ∧ 1 ≤ p.n3 ∧ p.n3 ≤ 4 ∧ p.n1 * cdv p.n0 p.n2 < 32 := of_decide_eq_true h
theorem ok_cdv {p : Par} (h : ok p = true) : 1 ≤ cdv p.n0 p.n2 ∧ cdv p.n0 p.n2 ≤ 64 := by have := ok_bd h; exact cdv_bd (by omega) (by omega) (by omega)
def bad (p : Par) : Int := if ok p then 0 else 1
theorem bad_0 {p : Par} (h : 1 ≤ p.n0 ∧ p.n0 ≤ 64 ∧ 1 ≤ p.n1 ∧ p.n1 ≤ 4 ∧ 1 ≤ p.n2 ∧ p.n2 ≤ 8 ∧ 1 ≤ p.n3 ∧ p.n3 ≤ 4 ∧ p.n1 * cdv p.n0 p.n2 < 32) : bad p = 0 := by unfold bad; rw [if_pos (by unfold ok; exact decide_eq_true h)]
theorem bad_1 {p : Par} (h : ¬ (1 ≤ p.n0 ∧ p.n0 ≤ 64 ∧ 1 ≤ p.n1 ∧ p.n1 ≤ 4 ∧ 1 ≤ p.n2 ∧ p.n2 ≤ 8 ∧ 1 ≤ p.n3 ∧ p.n3 ≤ 4 ∧ p.n1 * cdv p.n0 p.n2 < 32)) : bad p = 1 := by unfold bad; rw [if_neg (fun h2 => h (ok_bd h2))]
theorem bad_yes {p : Par} (h : bad p = 0) : ok p = true := by
  unfold bad at h
  split at h
  · assumption
  · omega
theorem bad_no {p : Par} (h : ¬ bad p = 0) : ok p = false := by
  unfold bad at h
  split at h
  · exact absurd rfl h
  · exact Bool.eq_false_iff.2 (by assumption)

/-- the records that are left when the trial is made small -/
def fewN (a b : Int) : Nat → Int
  | 0 => 0
  | 1 => 1
  | n + 2 => if 7 < a * cdv ((n : Int) + 2) b then fewN a b (n + 1) else (n : Int) + 2
def fewI (a b i : Int) : Int := fewN a b i.toNat
theorem fewI_step {a b i : Int} (h : 1 < i) (h2 : 7 < a * cdv i b) : fewI a b (i - 1) = fewI a b i := by
  obtain ⟨n, hn⟩ : ∃ n : Nat, i = (n : Int) + 2 := ⟨(i - 2).toNat, by omega⟩
  unfold fewI
  rw [show i.toNat = n + 2 by omega, show (i - 1).toNat = n + 1 by omega]
  rw [hn] at h2
  rw [fewN, if_pos h2]
theorem fewI_stop {a b i : Int} (h : 1 ≤ i) (h2 : ¬ (1 < i ∧ 7 < a * cdv i b)) : fewI a b i = i := by
  unfold fewI
  by_cases h1 : i = 1
  · subst h1; rfl
  · obtain ⟨n, hn⟩ : ∃ n : Nat, i = (n : Int) + 2 := ⟨(i - 2).toNat, by omega⟩
    rw [show i.toNat = n + 2 by omega]
    rw [hn] at h2
    rw [fewN, if_neg (by omega), hn]
def few (p : Par) : Par := if ok p then ⟨fewI p.n1 p.n2 p.n0, p.n1, p.n2, p.n3⟩ else p
theorem few_no {p : Par} (h : ok p = false) : few p = p := by unfold few; rw [if_neg (by rw [h]; decide)]
theorem few_yes {p : Par} {i : Int} (h : ok p = true) (h1 : fewI p.n1 p.n2 i = fewI p.n1 p.n2 p.n0) (h2 : 1 ≤ i) (h3 : ¬ (1 < i ∧ 7 < p.n1 * cdv i p.n2)) : few p = ⟨i, p.n1, p.n2, p.n3⟩ := by
  unfold few
  rw [if_pos h, ← h1, fewI_stop h2 h3]
theorem cdv_mono {a b : Int} (h : 1 ≤ b) : cdv (a - 1) b ≤ cdv a b := by
  unfold cdv
  have := Int.ediv_le_ediv (a := a - 1 - 1) (b := a - 1) (c := b) (by omega) (by omega)
  omega
theorem fewN_bd {a b : Int} (ha : 1 ≤ a) (ha2 : a ≤ 4) (hb : 1 ≤ b) : ∀ n : Nat, 1 ≤ n → 1 ≤ fewN a b n ∧ fewN a b n ≤ n ∧ a * cdv (fewN a b n) b ≤ 7
  | 1, _ => by
    have e : cdv 1 b = 1 := by unfold cdv; rw [show (1 : Int) - 1 = 0 by decide, Int.zero_ediv]; rfl
    unfold fewN
    rw [e]
    omega
  | n + 2, _ => by
    have ih := fewN_bd ha ha2 hb (n + 1) (by omega)
    unfold fewN
    split
    · refine ⟨ih.1, by omega, ih.2.2⟩
    · refine ⟨by omega, by omega, by omega⟩
theorem few_small {p : Par} (h : ok p = true) : ok (few p) = true ∧ (few p).n1 * cdv (few p).n0 (few p).n2 ≤ 7 := by
  have hb := ok_bd h
  have h1 := fewN_bd (a := p.n1) (b := p.n2) (by omega) (by omega) (by omega) p.n0.toNat (by omega)
  have e : few p = ⟨fewI p.n1 p.n2 p.n0, p.n1, p.n2, p.n3⟩ := by unfold few; rw [if_pos h]
  rw [e]
  refine ⟨?_, h1.2.2⟩
  unfold ok
  obtain ⟨b0, b1, b2, b3, b4, b5, b6, b7, b8⟩ := hb
  have h2 := h1.2.2
  have h3 : fewN p.n1 p.n2 p.n0.toNat ≤ 64 := by omega
  have h4 : p.n1 * cdv (fewN p.n1 p.n2 p.n0.toNat) p.n2 < 32 := by omega
  exact decide_eq_true ⟨h1.1, h3, b2, b3, b4, b5, b6, b7, h4⟩

/-- blocks of records, slots of the network -/
def bk (p : Par) : Int := if ok p then cdv p.n0 p.n2 else 0
def sl (p : Par) : Nat := if ok p then pad (p.n1 * cdv p.n0 p.n2 + 1) else 0
theorem bk_yes {p : Par} (h : ok p = true) : bk p = cdv p.n0 p.n2 := by unfold bk; rw [if_pos h]
theorem bk_no {p : Par} (h : ok p = false) : bk p = 0 := by unfold bk; rw [if_neg (by rw [h]; decide)]
theorem sl_yes {p : Par} (h : ok p = true) : sl p = pad (p.n1 * cdv p.n0 p.n2 + 1) := by unfold sl; rw [if_pos h]
theorem sl_no {p : Par} (h : ok p = false) : sl p = 0 := by unfold sl; rw [if_neg (by rw [h]; decide)]
theorem sl_le (p : Par) : sl p ≤ 65536 := by
  cases h : ok p
  · rw [sl_no h]; omega
  · rw [sl_yes h]; exact pad_le _
theorem bk_bd (p : Par) : 0 ≤ bk p ∧ bk p ≤ 64 := by
  cases h : ok p
  · rw [bk_no h]; omega
  · rw [bk_yes h]; have := ok_cdv h; omega
theorem nbk_bd (p : Par) : 0 ≤ p.n1 * bk p ∧ p.n1 * bk p ≤ 256 := by
  cases h : ok p
  · rw [bk_no h, Int.mul_zero]; omega
  · rw [bk_yes h]; have h1 := ok_cdv h; have h2 := ok_bd h; have := nb_bd (a := p.n1) (c := cdv p.n0 p.n2) (by omega) (by omega) (by omega) (by omega); omega
theorem sl_0 {p : Par} (h : sl p = 0) : ok p = false := by
  cases h1 : ok p
  · rfl
  · rw [sl_yes h1] at h
    have := pd1 (p.n1 * cdv p.n0 p.n2 + 1)
    omega
theorem sl_1 {p : Par} (h : ¬ sl p = 0) : ok p = true := by
  cases h1 : ok p
  · exact absurd (sl_no h1) h
  · rfl
theorem rnd_le (n : Int) : rnd n ≤ 136 := by
  have h := stgN_le n
  have h2 : stgN n * (stgN n + 1) ≤ 16 * 17 := Nat.mul_le_mul h (by omega)
  unfold rnd
  omega
theorem rh_le (p : Par) : rnd ((sl p : Nat) : Int) * (sl p / 2) ≤ 136 * 32768 := Nat.mul_le_mul (rnd_le _) (by have := sl_le p; omega)
/-- slots of the small trial -/
def rh (p : Par) : Nat := rnd ((sl p : Nat) : Int) * (sl p / 2)
theorem rh_bd (p : Par) : rh p ≤ 4456448 := rh_le p
theorem rh_wrap (p : Par) : IntKind.i64.wrap (((rnd ((sl p : Nat) : Int) : Nat) : Int) * ((sl p / 2 : Nat) : Int)) = ((rh p : Nat) : Int) := by
  have := rh_bd p
  rw [← Int.natCast_mul]
  exact wI rfl (by omega) (by show ((rh p : Nat) : Int) < _; omega)
theorem rh_wrap2 (p : Par) : IntKind.i64.wrap (((2 * rnd ((sl p : Nat) : Int) : Nat) : Int) * ((sl p / 2 : Nat) : Int)) = ((2 * rh p : Nat) : Int) := by
  have := rh_bd p
  rw [← Int.natCast_mul, Nat.mul_assoc]
  exact wI rfl (by omega) (by show ((2 * rh p : Nat) : Int) < _; omega)
/-- the plan of a right run -/
def ofP (p : Par) : Plan := if ok p then ⟨p.n1, bk p, sl p, rnd ((sl p : Nat) : Int), ((sl p / 2 : Nat) : Int), bk p, bk p + sl p - p.n1 * bk p, bk p + sl p - p.n1 * bk p + rh p, bk p + sl p - p.n1 * bk p + rh p + sl p, bk p + sl p - p.n1 * bk p + rh p + sl p + rh p⟩ else default
theorem ofP_yes {p : Par} (h : ok p = true) : ofP p = ⟨p.n1, bk p, sl p, rnd ((sl p : Nat) : Int), ((sl p / 2 : Nat) : Int), bk p, bk p + sl p - p.n1 * bk p, bk p + sl p - p.n1 * bk p + rh p, bk p + sl p - p.n1 * bk p + rh p + sl p, bk p + sl p - p.n1 * bk p + rh p + sl p + rh p⟩ := by unfold ofP; rw [if_pos h]
theorem ofP_no {p : Par} (h : ok p = false) : ofP p = ⟨0, 0, 0, 0, 0, 0, 0, 0, 0, 0⟩ := by unfold ofP; rw [if_neg (by rw [h]; decide)]; rfl
theorem cnt_yes {p : Par} (h : ¬ sl p = 0) : (ofP p).q9 = bk p + sl p - p.n1 * bk p + ((2 * rh p : Nat) : Int) + sl p := by
  rw [ofP_yes (sl_1 h)]
  show bk p + sl p - p.n1 * bk p + rh p + sl p + rh p = _
  omega
theorem cnt_no {p : Par} (h : sl p = 0) : (ofP p).q9 = 0 := by rw [ofP_no (sl_0 h)]
theorem ofP_2 (p : Par) : (ofP p).q2 = sl p := by
  cases h : ok p
  · rw [ofP_no h, sl_no h]; rfl
  · rw [ofP_yes h]
theorem ofP_3 (p : Par) : (ofP p).q3 = rnd ((sl p : Nat) : Int) := by
  cases h : ok p
  · rw [ofP_no h, sl_no h]; rfl
  · rw [ofP_yes h]
def behind (a b c d : Int) : Spot := if c = 0 then ⟨b, 0, d⟩ else ⟨a, c, d⟩
/-- the spots of the last slots -/
def lastS (p : Par) : List Spot := (List.range (sl p)).map fun i => behind 5 3 (ofP p).q3 ((i : Nat) : Int)
theorem lastS_len (p : Par) : (lastS p).length = sl p := by simp [lastS]

end Go.Proofs.Ytldkjjnjdjfipaa
