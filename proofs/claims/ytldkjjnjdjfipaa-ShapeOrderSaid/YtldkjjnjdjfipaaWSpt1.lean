/- What a task reads and writes, walked. -/
import Derived.Test.YtldkjjnjdjfipaaP17c
import Derived.Test.YtldkjjnjdjfipaaWTsk3
namespace Go.Proofs.Ytldkjjnjdjfipaa
open Go Go.RowKit
set_option linter.unusedVariables false
set_option linter.unusedSimpArgs false
set_option maxRecDepth 10000
set_option maxHeartbeats 1000000

theorem readsP_no {p : Par} {i : Int} (h : (tkAt p i).2 = false) : readsP p i = [] := by unfold readsP; rw [if_neg (by rw [h]; decide)]
theorem readsP_yes {p : Par} {i : Int} (h : (tkAt p i).2 = true) : readsP p i = readsT (sl p) (tkAt p i).1 := by unfold readsP; rw [if_pos h]
theorem writesP_no {p : Par} {i : Int} (h : (tkAt p i).2 = false) : writesP p i = [] := by unfold writesP; rw [if_neg (by rw [h]; decide)]
theorem writesP_yes {p : Par} {i : Int} (h : (tkAt p i).2 = true) : writesP p i = writesT p.n1 (tkAt p i).1 := by unfold writesP; rw [if_pos h]
theorem rt_1 {w : Nat} {t : Task} (h : t.t0 = 1) : readsT w t = [⟨0, 0, t.t2⟩] := by unfold readsT; rw [if_pos h]
theorem rt_3 {w : Nat} {t : Task} (h : t.t0 = 3) : readsT w t = [behind 2 1 (t.t1 - 1) t.t2, behind 2 1 (t.t1 - 1) t.t3] := by unfold readsT; rw [if_neg (by omega), if_pos h]
theorem rt_4a {w : Nat} {t : Task} (h : t.t0 = 4) (h2 : 0 < t.t2) : readsT w t = [behind 2 1 ((rnd ((w : Nat) : Int) : Nat) : Int) t.t2, ⟨4, 0, t.t2 - 1⟩] := by unfold readsT; rw [if_neg (by omega), if_neg (by omega), if_pos h, if_pos h2]
theorem rt_4b {w : Nat} {t : Task} (h : t.t0 = 4) (h2 : ¬ 0 < t.t2) : readsT w t = [behind 2 1 ((rnd ((w : Nat) : Int) : Nat) : Int) t.t2] := by unfold readsT; rw [if_neg (by omega), if_neg (by omega), if_pos h, if_neg h2]
theorem rt_5 {w : Nat} {t : Task} (h : t.t0 = 5) : readsT w t = [behind 5 3 (t.t1 - 1) t.t2, behind 5 3 (t.t1 - 1) t.t3] := by unfold readsT; rw [if_neg (by omega), if_neg (by omega), if_neg (by omega), if_pos h]
theorem rt_n {w : Nat} {t : Task} (h1 : ¬ t.t0 = 1) (h3 : ¬ t.t0 = 3) (h4 : ¬ t.t0 = 4) (h5 : ¬ t.t0 = 5) : readsT w t = [] := by unfold readsT; rw [if_neg h1, if_neg h3, if_neg h4, if_neg h5]
theorem wt_1 {a : Int} {t : Task} (h : t.t0 = 1) : writesT a t = blkS a t.t2 a.toNat := by unfold writesT; rw [if_pos h]
theorem wt_2 {a : Int} {t : Task} (h : t.t0 = 2) : writesT a t = [⟨1, 0, t.t2⟩] := by unfold writesT; rw [if_neg (by omega), if_pos h]
theorem wt_3 {a : Int} {t : Task} (h : t.t0 = 3) : writesT a t = [⟨2, t.t1, t.t2⟩, ⟨2, t.t1, t.t3⟩] := by unfold writesT; rw [if_neg (by omega), if_neg (by omega), if_pos h]
theorem wt_4 {a : Int} {t : Task} (h : t.t0 = 4) : writesT a t = [⟨3, 0, t.t2⟩, ⟨4, 0, t.t2⟩] := by unfold writesT; rw [if_neg (by omega), if_neg (by omega), if_neg (by omega), if_pos h]
theorem wt_n {a : Int} {t : Task} (h1 : ¬ t.t0 = 1) (h2 : ¬ t.t0 = 2) (h3 : ¬ t.t0 = 3) (h4 : ¬ t.t0 = 4) : writesT a t = [⟨5, t.t1, t.t2⟩, ⟨5, t.t1, t.t3⟩] := by unfold writesT; rw [if_neg h1, if_neg h2, if_neg h3, if_neg h4]
theorem blkS_len (a b : Int) (i : Nat) : (blkS a b i).length = i := by simp [blkS]
theorem blkS_next (a b : Int) (i : Nat) : blkS a b i ++ [⟨1, 0, a * b + ((i : Nat) : Int)⟩] = blkS a b (i + 1) := by simp [blkS, List.range_succ]
theorem mul4_bd {a b : Int} (h0 : 1 ≤ a) (h1 : a ≤ 4) (h2 : 0 ≤ b) (h3 : b ≤ 1000000000) : 0 ≤ a * b ∧ a * b ≤ 4000000000 := by
  have h4 : 0 ≤ a * b := Int.mul_nonneg (by omega) h2
  have h5 : a * b ≤ 4 * b := Int.mul_le_mul_of_nonneg_right h1 h2
  omega
theorem tk_n1 {p : Par} {i : Int} (h : (tkAt p i).2 = true) : 1 ≤ p.n1 ∧ p.n1 ≤ 4 := by
  have h2 := of_decide_eq_true (tk_some.symm.trans h)
  have h3 := ok_bd (cnt_ok (p := p) (k := i.toNat) (by omega))
  omega
theorem prA_le {w j : Nat} (hw : w ≤ 65536) (hh : 0 < w / 2) : prA w j ≤ 1000000 := by
  have h2 := Nat.mod_lt j hh
  have h3 := Nat.div_mul_le_self (j % (w / 2)) (far w ((j / (w / 2) : Nat) : Int))
  have h4 := Nat.mod_le (j % (w / 2)) (far w ((j / (w / 2) : Nat) : Int))
  unfold prA
  omega
theorem prT_bd {w : Nat} {k : Int} {j : Nat} (hw : w ≤ 65536) (hh : 0 < w / 2) (hj : j ≤ 100000000) : 0 ≤ (prT w k j).t1 ∧ (prT w k j).t1 ≤ 1000000000 ∧ 0 ≤ (prT w k j).t2 ∧ (prT w k j).t2 ≤ 1000000000 ∧ 0 ≤ (prT w k j).t3 ∧ (prT w k j).t3 ≤ 1000000000 := by
  have h1 := prA_le (j := j) hw hh
  have h2 := Nat.div_le_self j (w / 2)
  have h3 := far_le ((w : Nat) : Int) ((j / (w / 2) : Nat) : Int)
  have h4 : (0 : Int) ≤ ((j / (w / 2) : Nat) : Int) := Int.natCast_nonneg _
  show 0 ≤ ((j / (w / 2) + 1 : Nat) : Int) ∧ ((j / (w / 2) + 1 : Nat) : Int) ≤ _ ∧ 0 ≤ ((prA w j : Nat) : Int) ∧ ((prA w j : Nat) : Int) ≤ _ ∧ 0 ≤ ((prA w j + far w ((j / (w / 2) : Nat) : Int) : Nat) : Int) ∧ ((prA w j + far w ((j / (w / 2) : Nat) : Int) : Nat) : Int) ≤ _
  omega
theorem tk_bd {p : Par} {i : Int} (h : (tkAt p i).2 = true) : 0 ≤ (tkAt p i).1.t1 ∧ (tkAt p i).1.t1 ≤ 1000000000 ∧ 0 ≤ (tkAt p i).1.t2 ∧ (tkAt p i).1.t2 ≤ 1000000000 ∧ 0 ≤ (tkAt p i).1.t3 ∧ (tkAt p i).1.t3 ≤ 1000000000 := by
  have h2 := of_decide_eq_true (tk_some.symm.trans h)
  have hk := cnt_ok (p := p) (k := i.toNat) (by omega)
  have hh := sl_half hk
  have hc := cnt_eq p
  have s1 := sl_le p
  have s2 := bk_bd p
  have s4 := rh_bd p
  have s6 := ofP_6 p
  have s7 := ofP_7 p
  have s8 := ofP_8 p
  have s9 := ofP_9 p
  have s0 := ofP_0 p
  have s5 := nb_sl p
  by_cases c1 : i < bk p
  · rw [tk_1 (by omega) (by omega) c1]; show (0 : Int) ≤ 0 ∧ (0 : Int) ≤ _ ∧ 0 ≤ i ∧ i ≤ _ ∧ (0 : Int) ≤ 0 ∧ (0 : Int) ≤ _; omega
  by_cases c2 : i < (ofP p).q6
  · rw [tk_2 (by omega) (by omega) c1 c2]; show (0 : Int) ≤ 0 ∧ (0 : Int) ≤ _ ∧ 0 ≤ i - bk p + (ofP p).q0 * bk p ∧ i - bk p + (ofP p).q0 * bk p ≤ _ ∧ (0 : Int) ≤ 0 ∧ (0 : Int) ≤ _; omega
  by_cases c3 : i < (ofP p).q7
  · rw [tk_3 (by omega) (by omega) c1 c2 c3]; exact prT_bd s1 hh (by omega)
  by_cases c4 : i < (ofP p).q8
  · rw [tk_4 (by omega) (by omega) c1 c2 c3 c4]; show (0 : Int) ≤ 0 ∧ (0 : Int) ≤ _ ∧ 0 ≤ i - (ofP p).q7 ∧ i - (ofP p).q7 ≤ _ ∧ (0 : Int) ≤ 0 ∧ (0 : Int) ≤ _; omega
  · rw [tk_5 (by omega) (by omega) c1 c2 c3 c4]; exact prT_bd s1 hh (by omega)
theorem ref_at {p : Par} (h : Small p) {i : Int} (h0 : 0 ≤ i) (h1 : i < (((refT p).length : Nat) : Int)) : (tkAt p i).2 = true ∧ (refT p).getD i.toNat default = (tkAt p i).1 := by
  have h2 := h.rlen
  have h3 := h.at (i := i.toNat) (by omega)
  refine ⟨tk_some.trans (decide_eq_true (by omega)), ?_⟩
  rw [h3]
  unfold tkN
  rw [show ((i.toNat : Nat) : Int) = i by omega]
theorem ref_no {p : Par} (h : Small p) {i : Int} (h0 : i < 0 ∨ (((refT p).length : Nat) : Int) ≤ i) : (tkAt p i).2 = false := by
  have h2 := h.rlen
  exact tk_some.trans (decide_eq_false (by omega))

theorem rbehind_c (a b c d : Int) (w : World) : Pure Try.prog 203 #[.int .i64 a, .int .i64 b, .int .i64 c, .int .i64 d] w (.agg #[.int .i64 ((behind b a c d).s0), .int .i64 ((behind b a c d).s1), .int .i64 ((behind b a c d).s2)]) := by
  refine calls_S (n := 18) (σ0 := (upd (upd (upd (upd fr0 0 (.int .i64 a)) 1 (.int .i64 b)) 2 (.int .i64 c)) 3 (.int .i64 d))) (D := []) (A := []) Try.func203 rfl Try.ntmps203 rfl (a4_fr _ _ _ _) (SH.start w) ?_
  refine wpS_seq ?_
  refine wpS_region ?_
  refine s_e rfl ?_
  refine e_alloc (l := [.int .i64 0, .int .i64 0, .int .i64 0]) Try.zeroValue144 rfl ?_
  intro b_1
  refine wpL_nil ?_
  refine thenS_n ?_
  refine wpS_seq ?_
  refine wpS_seq ?_
  refine wpS_region ?_
  refine s_y (v := .int .i64 c) (y_move rfl) rfl ?_
  refine s_y (v := .bool (decide ((c : Int) = 0))) (y_eql (a := c) (b := 0) rfl rfl rfl) rfl ?_
  refine wpL_nil ?_
  refine thenS_n ?_
  refine wpS_cond (t := decide ((c : Int) = 0)) rfl (fun b2 => ?_) (fun b2 => ?_)
  · -- decide ((c : Int) = 0) true
    have p2 := of_decide_eq_true b2
    refine wpS_seq ?_
    refine wpS_region ?_
    refine s_y (v := .int .i64 a) (y_move rfl) rfl ?_
    refine s_y (v := .int .i64 d) (y_move rfl) rfl ?_
    refine s_y (v := .agg #[.int .i64 a, .int .i64 0, .int .i64 d]) (y_buildL (m := [(0, .int .i64 a), (2, .int .i64 d)]) (vs := #[.int .i64 a, .int .i64 0, .int .i64 d]) (evc rfl (evc rfl evn)) (fun w => by kernel_rfl)) rfl ?_
    refine s_e0 ?_
    refine e_store (vs := [.int .i64 a, .int .i64 0, .int .i64 d]) (l' := [.int .i64 a, .int .i64 0, .int .i64 d]) rfl rfl rfl rfl Try.sizeOf144 .h (Nat.le_of_ble_eq_true rfl) rfl ?_
    refine wpL_nil ?_
    refine thenS_n ?_
    refine wpS_ret ?_
    refine thenS_r ?_
    refine fin1' (M := [cel b_1 144 [.int .i64 a, .int .i64 0, .int .i64 d]]) (.inr rfl) (.p .h .nil) Try.results203 (rvC (vs := [.int .i64 a, .int .i64 0, .int .i64 d]) rfl Try.isAgg144 Try.sizeOf144 (fun w hs => ownN .h rfl w hs)) ?_
    intro w' hs; exact ⟨congrArg (fun q : Spot => Ending.returned (.agg (spotV q).toArray)) (show (Spot.mk a 0 d : Spot) = behind b a c d by unfold behind; rw [if_pos (by omega)]), SH.dropAll (L := []) [_] hs⟩
  · -- decide ((c : Int) = 0) false
    have p2 := of_decide_eq_false b2
    refine wpS_skip ?_
    refine thenS_n ?_
    refine wpS_seq ?_
    refine wpS_region ?_
    refine s_y (v := .int .i64 b) (y_move rfl) rfl ?_
    refine s_y (v := .int .i64 c) (y_move rfl) rfl ?_
    refine s_y (v := .int .i64 d) (y_move rfl) rfl ?_
    refine s_y (v := .agg #[.int .i64 b, .int .i64 c, .int .i64 d]) (y_buildL (m := [(0, .int .i64 b), (1, .int .i64 c), (2, .int .i64 d)]) (vs := #[.int .i64 b, .int .i64 c, .int .i64 d]) (evc rfl (evc rfl (evc rfl evn))) (fun w => by kernel_rfl)) rfl ?_
    refine s_e0 ?_
    refine e_store (vs := [.int .i64 b, .int .i64 c, .int .i64 d]) (l' := [.int .i64 b, .int .i64 c, .int .i64 d]) rfl rfl rfl rfl Try.sizeOf144 .h (Nat.le_of_ble_eq_true rfl) rfl ?_
    refine wpL_nil ?_
    refine thenS_n ?_
    refine wpS_ret ?_
    refine fin1' (M := [cel b_1 144 [.int .i64 b, .int .i64 c, .int .i64 d]]) (.inr rfl) (.p .h .nil) Try.results203 (rvC (vs := [.int .i64 b, .int .i64 c, .int .i64 d]) rfl Try.isAgg144 Try.sizeOf144 (fun w hs => ownN .h rfl w hs)) ?_
    intro w' hs; exact ⟨congrArg (fun q : Spot => Ending.returned (.agg (spotV q).toArray)) (show (Spot.mk b c d : Spot) = behind b a c d by unfold behind; rw [if_neg (by omega)]), SH.dropAll (L := []) [_] hs⟩

theorem reads_c (p : Par) (i : Int) (w : World) : MakesS Try.prog 124 #[.agg #[.int .i64 (p.n0), .int .i64 (p.n1), .int .i64 (p.n2), .int .i64 (p.n3)], .int .i64 i] w [] spotV 3 144 (readsP p i) := by
  refine calls_S (n := 74) (σ0 := (upd (upd fr0 0 (.agg #[.int .i64 (p.n0), .int .i64 (p.n1), .int .i64 (p.n2), .int .i64 (p.n3)])) 1 (.int .i64 i))) (D := []) (A := []) Try.func124 rfl Try.ntmps124 rfl (a2_fr _ _) (SH.start w) ?_
  refine wpS_seq ?_
  refine wpS_region ?_
  refine s_e rfl ?_
  refine e_box (v := .agg #[.int .i64 (p.n0), .int .i64 (p.n1), .int .i64 (p.n2), .int .i64 (p.n3)]) (l := [.int .i64 (p.n0), .int .i64 (p.n1), .int .i64 (p.n2), .int .i64 (p.n3)]) rfl rfl ?_
  intro b_1
  refine s_y (v := .slice none 0 0) (y_assign rfl) rfl ?_
  refine wpL_nil ?_
  refine thenS_n ?_
  refine wpS_seq ?_
  refine wpS_region ?_
  refine s_y (v := .agg #[.int .i64 (p.n0), .int .i64 (p.n1), .int .i64 (p.n2), .int .i64 (p.n3)]) (y_loadN (vs := [.int .i64 (p.n0), .int .i64 (p.n1), .int .i64 (p.n2), .int .i64 (p.n3)]) rfl Try.isAgg53 Try.sizeOf53 (ownN .h rfl)) rfl ?_
  refine s_y (v := .int .i64 i) (y_move rfl) rfl ?_
  refine s_y (v := .tuple #[.agg #[.int .i64 (((tkAt p i).1).t0), .int .i64 (((tkAt p i).1).t1), .int .i64 (((tkAt p i).1).t2), .int .i64 (((tkAt p i).1).t3), .bool (((tkAt p i).1).t4)], .bool ((tkAt p i).2)]) (y_call (args := #[.agg #[.int .i64 (p.n0), .int .i64 (p.n1), .int .i64 (p.n2), .int .i64 (p.n3)], .int .i64 i]) (v := .tuple #[.agg #[.int .i64 (((tkAt p i).1).t0), .int .i64 (((tkAt p i).1).t1), .int .i64 (((tkAt p i).1).t2), .int .i64 (((tkAt p i).1).t3), .bool (((tkAt p i).1).t4)], .bool ((tkAt p i).2)]) Try.call122 (ev2 rfl rfl) (fun w hs => task_c p i w)) rfl ?_
  refine s_y (v := .tuple #[.agg #[.int .i64 (((tkAt p i).1).t0), .int .i64 (((tkAt p i).1).t1), .int .i64 (((tkAt p i).1).t2), .int .i64 (((tkAt p i).1).t3), .bool (((tkAt p i).1).t4)], .bool ((tkAt p i).2)]) (y_move rfl) rfl ?_
  refine s_y (v := .agg #[.int .i64 (((tkAt p i).1).t0), .int .i64 (((tkAt p i).1).t1), .int .i64 (((tkAt p i).1).t2), .int .i64 (((tkAt p i).1).t3), .bool (((tkAt p i).1).t4)]) (y_extract (v := .agg #[.int .i64 (((tkAt p i).1).t0), .int .i64 (((tkAt p i).1).t1), .int .i64 (((tkAt p i).1).t2), .int .i64 (((tkAt p i).1).t3), .bool (((tkAt p i).1).t4)]) rfl rfl) rfl ?_
  refine s_y (v := .bool ((tkAt p i).2)) (y_extract (v := .bool ((tkAt p i).2)) rfl rfl) rfl ?_
  refine s_e rfl ?_
  refine e_alloc (l := [.int .i64 0, .int .i64 0, .int .i64 0, .int .i64 0, .bool false]) Try.zeroValue120 rfl ?_
  intro b_2
  refine s_e0 ?_
  refine e_store (vs := [.int .i64 (((tkAt p i).1).t0), .int .i64 (((tkAt p i).1).t1), .int .i64 (((tkAt p i).1).t2), .int .i64 (((tkAt p i).1).t3), .bool (((tkAt p i).1).t4)]) (l' := [.int .i64 (((tkAt p i).1).t0), .int .i64 (((tkAt p i).1).t1), .int .i64 (((tkAt p i).1).t2), .int .i64 (((tkAt p i).1).t3), .bool (((tkAt p i).1).t4)]) rfl rfl rfl rfl Try.sizeOf120 .h (Nat.le_of_ble_eq_true rfl) rfl ?_
  refine s_y (v := .bool ((tkAt p i).2)) (y_assign rfl) rfl ?_
  refine wpL_nil ?_
  refine thenS_n ?_
  refine wpS_seq ?_
  refine wpS_seq ?_
  refine wpS_region ?_
  refine s_y (v := .bool ((tkAt p i).2)) (y_move rfl) rfl ?_
  refine s_y (v := .bool (!((tkAt p i).2))) (y_not (b := (tkAt p i).2) rfl) rfl ?_
  refine wpL_nil ?_
  refine thenS_n ?_
  refine wpS_cond (t := !((tkAt p i).2)) rfl (fun b3 => ?_) (fun b3 => ?_)
  · -- !((tkAt p i).2) true
    have b4 : ((tkAt p i).2) = false := by simpa using b3
    refine wpS_seq ?_
    refine wpS_region ?_
    refine s_y (v := .slice none 0 0) (y_assign rfl) rfl ?_
    refine wpL_nil ?_
    refine thenS_n ?_
    refine wpS_ret ?_
    refine thenS_r ?_
    refine finNil (.inr rfl) .nil Try.results124 rfl (sz := 3) (ty := 144) ?_
    exact fun w' hs => ⟨(none, 0), by rw [show (readsP p i) = [] from (readsP_no (by assumption))]; rfl, by rw [show (readsP p i) = [] from (readsP_no (by assumption))]; exact hs, trivial⟩
  · -- !((tkAt p i).2) false
    have b5 : ((tkAt p i).2) = true := by simpa using b3
    have hbd := tk_bd b5
    have hn1 := tk_n1 b5
    refine wpS_skip ?_
    refine thenS_n ?_
    refine wpS_seq ?_
    refine wpS_seq ?_
    refine wpS_region ?_
    refine s_y (v := .pointer (some ⟨b_2, 0, none⟩)) (y_fieldAddr (o' := 0) rfl Try.underlying120 rfl Try.sizeOf3 (by decide) rfl) rfl ?_
    refine s_y (v := .int .i64 (((tkAt p i).1).t0)) (y_load1 rfl Try.isAgg3 (own1 .h rfl)) rfl ?_
    refine wpL_nil ?_
    refine thenS_n ?_
    refine wpS_block ?_
    refine wpS_seq ?_
    refine wpS_region ?_
    refine s_y (v := .bool (decide ((((tkAt p i).1).t0 : Int) = 1))) (y_eql (a := ((tkAt p i).1).t0) (b := 1) rfl rfl rfl) rfl ?_
    refine s_y (v := .bool (decide ((((tkAt p i).1).t0 : Int) = 1))) (y_assign rfl) rfl ?_
    refine wpL_nil ?_
    refine thenS_n ?_
    refine wpS_cond (t := decide ((((tkAt p i).1).t0 : Int) = 1)) rfl (fun b6 => ?_) (fun b6 => ?_)
    · -- decide ((((tkAt p i).1).t0 : Int) = 1) true
      have p6 := of_decide_eq_true b6
      refine wpS_seq ?_
      refine wpS_region ?_
      refine s_y (v := .pointer (some ⟨b_2, 2, none⟩)) (y_fieldAddr (o' := 2) rfl Try.underlying120 rfl Try.sizeOf3 (by decide) rfl) rfl ?_
      refine s_y (v := .int .i64 (((tkAt p i).1).t2)) (y_load1 rfl Try.isAgg3 (own1 .h rfl)) rfl ?_
      refine s_y (v := .agg #[.int .i64 0, .int .i64 0, .int .i64 (((tkAt p i).1).t2)]) (y_buildL (m := [(0, .int .i64 0), (2, .int .i64 (((tkAt p i).1).t2))]) (vs := #[.int .i64 0, .int .i64 0, .int .i64 (((tkAt p i).1).t2)]) (evc rfl (evc rfl evn)) (fun w => by kernel_rfl)) rfl ?_
      refine s_e rfl ?_
      refine e_bsliceL (e := 144) (m := [(0, .agg #[.int .i64 0, .int .i64 0, .int .i64 (((tkAt p i).1).t2)])]) (l := [.int .i64 0, .int .i64 0, .int .i64 (((tkAt p i).1).t2)]) (evc rfl evn) (fun w => by kernel_rfl) ?_
      intro b_7
      refine s_y (v := .slice (some ⟨b_7, 0, none⟩) 1 1) (y_assign rfl) rfl ?_
      refine wpL_nil ?_
      refine thenS_n ?_
      refine wpS_ret ?_
      refine blockS_r ?_
      refine thenS_r ?_
      refine fin1 (M := [cel b_7 144 [.int .i64 0, .int .i64 0, .int .i64 (((tkAt p i).1).t2)]]) (v := .slice (some ⟨b_7, 0, none⟩) 1 1) (.inr rfl) (.p .h .nil) Try.results124 rfl ?_
      exact fun w' hs => ⟨(some ⟨b_7, 0, none⟩, 1), by rw [show (readsP p i) = [(Spot.mk 0 0 (((tkAt p i).1).t2))] from (by rw [readsP_yes (by assumption), rt_1 (by assumption)] <;> rfl)]; rfl, by rw [show (readsP p i) = [(Spot.mk 0 0 (((tkAt p i).1).t2))] from (by rw [readsP_yes (by assumption), rt_1 (by assumption)] <;> rfl)]; exact SH.celO (n := 1) (sz := 3) .h rfl (by decide) w' hs, trivial⟩
    · -- decide ((((tkAt p i).1).t0 : Int) = 1) false
      have p6 := of_decide_eq_false b6
      refine wpS_seq ?_
      refine wpS_region ?_
      refine s_y (v := .bool (decide ((((tkAt p i).1).t0 : Int) = 3))) (y_eql (a := ((tkAt p i).1).t0) (b := 3) rfl rfl rfl) rfl ?_
      refine s_y (v := .bool (decide ((((tkAt p i).1).t0 : Int) = 3))) (y_assign rfl) rfl ?_
      refine wpL_nil ?_
      refine thenS_n ?_
      refine wpS_cond (t := decide ((((tkAt p i).1).t0 : Int) = 3)) rfl (fun b8 => ?_) (fun b8 => ?_)
      · -- decide ((((tkAt p i).1).t0 : Int) = 3) true
        have p8 := of_decide_eq_true b8
        refine wpS_seq ?_
        refine wpS_anyL [cel b_2 120 [.int .i64 (((tkAt p i).1).t0), .int .i64 (((tkAt p i).1).t1), .int .i64 (((tkAt p i).1).t2), .int .i64 (((tkAt p i).1).t3), .bool (((tkAt p i).1).t4)]] [] (by kernel_rfl) ?_
        refine anyS_take (i := 0) rfl (by kernel_rfl) (by kernel_rfl) (by kernel_rfl) (by kernel_rfl) (Yq.of (v := .pointer (some ⟨b_2, 1, none⟩)) (y_fieldAddr (o' := 1) rfl Try.underlying120 rfl Try.sizeOf3 (by decide) rfl) rfl) (.p .h .nil) ?_
        refine anyS_take (i := 1) rfl (by kernel_rfl) (by kernel_rfl) (by kernel_rfl) (by kernel_rfl) (Yq.of (v := .int .i64 (((tkAt p i).1).t1)) (y_load1 rfl Try.isAgg3 (own1 .h rfl)) rfl) (.p .h .nil) ?_
        refine anyS_take (i := 2) rfl (by kernel_rfl) (by kernel_rfl) (by kernel_rfl) (by kernel_rfl) (Yq.of (v := .int .i64 ((((tkAt p i).1).t1) - 1)) (y_sub (a := ((tkAt p i).1).t1) (b := 1) (c := (((tkAt p i).1).t1) - 1) rfl rfl (wI rfl (by omega) (by omega))) rfl) (.p .h .nil) ?_
        refine anyS_take (i := 3) rfl (by kernel_rfl) (by kernel_rfl) (by kernel_rfl) (by kernel_rfl) (Yq.of (v := .pointer (some ⟨b_2, 2, none⟩)) (y_fieldAddr (o' := 2) rfl Try.underlying120 rfl Try.sizeOf3 (by decide) rfl) rfl) (.p .h .nil) ?_
        refine anyS_take (i := 4) rfl (by kernel_rfl) (by kernel_rfl) (by kernel_rfl) (by kernel_rfl) (Yq.of (v := .int .i64 (((tkAt p i).1).t2)) (y_load1 rfl Try.isAgg3 (own1 .h rfl)) rfl) (.p .h .nil) ?_
        refine anyS_take (i := 5) rfl (by kernel_rfl) (by kernel_rfl) (by kernel_rfl) (by kernel_rfl) (Yq.of (v := .agg #[.int .i64 ((behind 2 1 ((((tkAt p i).1).t1) - 1) (((tkAt p i).1).t2)).s0), .int .i64 ((behind 2 1 ((((tkAt p i).1).t1) - 1) (((tkAt p i).1).t2)).s1), .int .i64 ((behind 2 1 ((((tkAt p i).1).t1) - 1) (((tkAt p i).1).t2)).s2)]) (y_call (args := #[.int .i64 2, .int .i64 1, .int .i64 ((((tkAt p i).1).t1) - 1), .int .i64 (((tkAt p i).1).t2)]) (v := .agg #[.int .i64 ((behind 2 1 ((((tkAt p i).1).t1) - 1) (((tkAt p i).1).t2)).s0), .int .i64 ((behind 2 1 ((((tkAt p i).1).t1) - 1) (((tkAt p i).1).t2)).s1), .int .i64 ((behind 2 1 ((((tkAt p i).1).t1) - 1) (((tkAt p i).1).t2)).s2)]) Try.call161 (ev4 rfl rfl rfl rfl) (fun w hs => behind_c 2 1 ((((tkAt p i).1).t1) - 1) (((tkAt p i).1).t2) w)) rfl) (.p .h .nil) ?_
        refine anyS_take (i := 6) rfl (by kernel_rfl) (by kernel_rfl) (by kernel_rfl) (by kernel_rfl) (Yq.of (v := .pointer (some ⟨b_2, 1, none⟩)) (y_fieldAddr (o' := 1) rfl Try.underlying120 rfl Try.sizeOf3 (by decide) rfl) rfl) (.p .h .nil) ?_
        refine anyS_take (i := 7) rfl (by kernel_rfl) (by kernel_rfl) (by kernel_rfl) (by kernel_rfl) (Yq.of (v := .int .i64 (((tkAt p i).1).t1)) (y_load1 rfl Try.isAgg3 (own1 .h rfl)) rfl) (.p .h .nil) ?_
        refine anyS_take (i := 8) rfl (by kernel_rfl) (by kernel_rfl) (by kernel_rfl) (by kernel_rfl) (Yq.of (v := .int .i64 ((((tkAt p i).1).t1) - 1)) (y_sub (a := ((tkAt p i).1).t1) (b := 1) (c := (((tkAt p i).1).t1) - 1) rfl rfl (wI rfl (by omega) (by omega))) rfl) (.p .h .nil) ?_
        refine anyS_take (i := 9) rfl (by kernel_rfl) (by kernel_rfl) (by kernel_rfl) (by kernel_rfl) (Yq.of (v := .pointer (some ⟨b_2, 3, none⟩)) (y_fieldAddr (o' := 3) rfl Try.underlying120 rfl Try.sizeOf3 (by decide) rfl) rfl) (.p .h .nil) ?_
        refine anyS_take (i := 10) rfl (by kernel_rfl) (by kernel_rfl) (by kernel_rfl) (by kernel_rfl) (Yq.of (v := .int .i64 (((tkAt p i).1).t3)) (y_load1 rfl Try.isAgg3 (own1 .h rfl)) rfl) (.p .h .nil) ?_
        refine anyS_take (i := 11) rfl (by kernel_rfl) (by kernel_rfl) (by kernel_rfl) (by kernel_rfl) (Yq.of (v := .agg #[.int .i64 ((behind 2 1 ((((tkAt p i).1).t1) - 1) (((tkAt p i).1).t3)).s0), .int .i64 ((behind 2 1 ((((tkAt p i).1).t1) - 1) (((tkAt p i).1).t3)).s1), .int .i64 ((behind 2 1 ((((tkAt p i).1).t1) - 1) (((tkAt p i).1).t3)).s2)]) (y_call (args := #[.int .i64 2, .int .i64 1, .int .i64 ((((tkAt p i).1).t1) - 1), .int .i64 (((tkAt p i).1).t3)]) (v := .agg #[.int .i64 ((behind 2 1 ((((tkAt p i).1).t1) - 1) (((tkAt p i).1).t3)).s0), .int .i64 ((behind 2 1 ((((tkAt p i).1).t1) - 1) (((tkAt p i).1).t3)).s1), .int .i64 ((behind 2 1 ((((tkAt p i).1).t1) - 1) (((tkAt p i).1).t3)).s2)]) Try.call161 (ev4 rfl rfl rfl rfl) (fun w hs => behind_c 2 1 ((((tkAt p i).1).t1) - 1) (((tkAt p i).1).t3) w)) rfl) (.p .h .nil) ?_
        refine anyS_all (rs := [12]) (by kernel_rfl) (by simp) ?_
        intro i hi; obtain rfl := List.mem_singleton.1 hi; clear hi
        refine opS_0 rfl rfl ?_
        refine e_bsliceL (e := 144) (m := [(0, .agg #[.int .i64 ((behind 2 1 ((((tkAt p i).1).t1) - 1) (((tkAt p i).1).t2)).s0), .int .i64 ((behind 2 1 ((((tkAt p i).1).t1) - 1) (((tkAt p i).1).t2)).s1), .int .i64 ((behind 2 1 ((((tkAt p i).1).t1) - 1) (((tkAt p i).1).t2)).s2)]), (1, .agg #[.int .i64 ((behind 2 1 ((((tkAt p i).1).t1) - 1) (((tkAt p i).1).t3)).s0), .int .i64 ((behind 2 1 ((((tkAt p i).1).t1) - 1) (((tkAt p i).1).t3)).s1), .int .i64 ((behind 2 1 ((((tkAt p i).1).t1) - 1) (((tkAt p i).1).t3)).s2)])]) (l := [.int .i64 ((behind 2 1 ((((tkAt p i).1).t1) - 1) (((tkAt p i).1).t2)).s0), .int .i64 ((behind 2 1 ((((tkAt p i).1).t1) - 1) (((tkAt p i).1).t2)).s1), .int .i64 ((behind 2 1 ((((tkAt p i).1).t1) - 1) (((tkAt p i).1).t2)).s2), .int .i64 ((behind 2 1 ((((tkAt p i).1).t1) - 1) (((tkAt p i).1).t3)).s0), .int .i64 ((behind 2 1 ((((tkAt p i).1).t1) - 1) (((tkAt p i).1).t3)).s1), .int .i64 ((behind 2 1 ((((tkAt p i).1).t1) - 1) (((tkAt p i).1).t3)).s2)]) (evc rfl (evc rfl evn)) (fun w => by kernel_rfl) ?_
        intro b_9
        refine ⟨.inr (.p (.t .h) .nil), ?_⟩
        refine anyS_take (i := 13) rfl (by kernel_rfl) (by kernel_rfl) (by kernel_rfl) (by kernel_rfl) (Yq.of (v := .slice (some ⟨b_9, 0, none⟩) 2 2) (y_assign rfl) rfl) (.p (.t .h) .nil) ?_
        refine anyS_done (by kernel_rfl) ?_
        refine thenS_n ?_
        refine wpS_ret ?_
        refine blockS_r ?_
        refine thenS_r ?_
        refine fin1 (M := [cel b_9 144 [.int .i64 ((behind 2 1 ((((tkAt p i).1).t1) - 1) (((tkAt p i).1).t2)).s0), .int .i64 ((behind 2 1 ((((tkAt p i).1).t1) - 1) (((tkAt p i).1).t2)).s1), .int .i64 ((behind 2 1 ((((tkAt p i).1).t1) - 1) (((tkAt p i).1).t2)).s2), .int .i64 ((behind 2 1 ((((tkAt p i).1).t1) - 1) (((tkAt p i).1).t3)).s0), .int .i64 ((behind 2 1 ((((tkAt p i).1).t1) - 1) (((tkAt p i).1).t3)).s1), .int .i64 ((behind 2 1 ((((tkAt p i).1).t1) - 1) (((tkAt p i).1).t3)).s2)]]) (v := .slice (some ⟨b_9, 0, none⟩) 2 2) (.inr rfl) (.p .h .nil) Try.results124 rfl ?_
        exact fun w' hs => ⟨(some ⟨b_9, 0, none⟩, 2), by rw [show (readsP p i) = [(behind 2 1 ((((tkAt p i).1).t1) - 1) (((tkAt p i).1).t2)), (behind 2 1 ((((tkAt p i).1).t1) - 1) (((tkAt p i).1).t3))] from (by rw [readsP_yes (by assumption), rt_3 (by assumption)] <;> rfl)]; rfl, by rw [show (readsP p i) = [(behind 2 1 ((((tkAt p i).1).t1) - 1) (((tkAt p i).1).t2)), (behind 2 1 ((((tkAt p i).1).t1) - 1) (((tkAt p i).1).t3))] from (by rw [readsP_yes (by assumption), rt_3 (by assumption)] <;> rfl)]; exact SH.celO (n := 2) (sz := 3) .h rfl (by decide) w' hs, trivial⟩
      · -- decide ((((tkAt p i).1).t0 : Int) = 3) false
        have p8 := of_decide_eq_false b8
        refine wpS_seq ?_
        refine wpS_region ?_
        refine s_y (v := .bool (decide ((((tkAt p i).1).t0 : Int) = 4))) (y_eql (a := ((tkAt p i).1).t0) (b := 4) rfl rfl rfl) rfl ?_
        refine s_y (v := .bool (decide ((((tkAt p i).1).t0 : Int) = 4))) (y_assign rfl) rfl ?_
        refine wpL_nil ?_
        refine thenS_n ?_
        refine wpS_cond (t := decide ((((tkAt p i).1).t0 : Int) = 4)) rfl (fun b10 => ?_) (fun b10 => ?_)
        · -- decide ((((tkAt p i).1).t0 : Int) = 4) true
          have p10 := of_decide_eq_true b10
          refine wpS_seq ?_
          refine wpS_anyL [cel b_2 120 [.int .i64 (((tkAt p i).1).t0), .int .i64 (((tkAt p i).1).t1), .int .i64 (((tkAt p i).1).t2), .int .i64 (((tkAt p i).1).t3), .bool (((tkAt p i).1).t4)], cel b_1 53 [.int .i64 (p.n0), .int .i64 (p.n1), .int .i64 (p.n2), .int .i64 (p.n3)]] [] (by kernel_rfl) ?_
          refine anyS_take (i := 0) rfl (by kernel_rfl) (by kernel_rfl) (by kernel_rfl) (by kernel_rfl) (Yq.of (v := .agg #[.int .i64 (p.n0), .int .i64 (p.n1), .int .i64 (p.n2), .int .i64 (p.n3)]) (y_loadN (vs := [.int .i64 (p.n0), .int .i64 (p.n1), .int .i64 (p.n2), .int .i64 (p.n3)]) rfl Try.isAgg53 Try.sizeOf53 (ownN (.t .h) rfl)) rfl) (.p .h (.p .h .nil)) ?_
          refine anyS_take (i := 1) rfl (by kernel_rfl) (by kernel_rfl) (by kernel_rfl) (by kernel_rfl) (Yq.of (v := .agg #[.int .i64 ((ofP p).q0), .int .i64 (bk p), .int .i64 ((((sl p) : Nat) : Int)), .int .i64 ((((rnd ((sl p : Nat) : Int)) : Nat) : Int)), .int .i64 ((((sl p / 2) : Nat) : Int)), .int .i64 (bk p), .int .i64 ((ofP p).q6), .int .i64 ((ofP p).q7), .int .i64 ((ofP p).q8), .int .i64 ((ofP p).q9)]) (y_call (args := #[.agg #[.int .i64 (p.n0), .int .i64 (p.n1), .int .i64 (p.n2), .int .i64 (p.n3)]]) (v := .agg #[.int .i64 ((ofP p).q0), .int .i64 (bk p), .int .i64 ((((sl p) : Nat) : Int)), .int .i64 ((((rnd ((sl p : Nat) : Int)) : Nat) : Int)), .int .i64 ((((sl p / 2) : Nat) : Int)), .int .i64 (bk p), .int .i64 ((ofP p).q6), .int .i64 ((ofP p).q7), .int .i64 ((ofP p).q8), .int .i64 ((ofP p).q9)]) Try.call160 (ev1 rfl) (fun w hs => of2_c p w)) rfl) (.p .h (.p .h .nil)) ?_
          refine anyS_take (i := 2) rfl (by kernel_rfl) (by kernel_rfl) (by kernel_rfl) (by kernel_rfl) (Yq.of (v := .int .i64 ((((rnd ((sl p : Nat) : Int)) : Nat) : Int))) (y_fieldL (vs := #[.int .i64 ((ofP p).q0), .int .i64 (bk p), .int .i64 ((((sl p) : Nat) : Int)), .int .i64 ((((rnd ((sl p : Nat) : Int)) : Nat) : Int)), .int .i64 ((((sl p / 2) : Nat) : Int)), .int .i64 (bk p), .int .i64 ((ofP p).q6), .int .i64 ((ofP p).q7), .int .i64 ((ofP p).q8), .int .i64 ((ofP p).q9)]) (v := .int .i64 ((((rnd ((sl p : Nat) : Int)) : Nat) : Int))) rfl (fun w => by kernel_rfl)) rfl) (.p .h (.p .h .nil)) ?_
          refine anyS_take (i := 3) rfl (by kernel_rfl) (by kernel_rfl) (by kernel_rfl) (by kernel_rfl) (Yq.of (v := .pointer (some ⟨b_2, 2, none⟩)) (y_fieldAddr (o' := 2) rfl Try.underlying120 rfl Try.sizeOf3 (by decide) rfl) rfl) (.p .h (.p .h .nil)) ?_
          refine anyS_take (i := 4) rfl (by kernel_rfl) (by kernel_rfl) (by kernel_rfl) (by kernel_rfl) (Yq.of (v := .int .i64 (((tkAt p i).1).t2)) (y_load1 rfl Try.isAgg3 (own1 .h rfl)) rfl) (.p .h (.p .h .nil)) ?_
          refine anyS_take (i := 5) rfl (by kernel_rfl) (by kernel_rfl) (by kernel_rfl) (by kernel_rfl) (Yq.of (v := .agg #[.int .i64 ((behind 2 1 (((rnd ((sl p : Nat) : Int)) : Nat) : Int) (((tkAt p i).1).t2)).s0), .int .i64 ((behind 2 1 (((rnd ((sl p : Nat) : Int)) : Nat) : Int) (((tkAt p i).1).t2)).s1), .int .i64 ((behind 2 1 (((rnd ((sl p : Nat) : Int)) : Nat) : Int) (((tkAt p i).1).t2)).s2)]) (y_call (args := #[.int .i64 2, .int .i64 1, .int .i64 ((((rnd ((sl p : Nat) : Int)) : Nat) : Int)), .int .i64 (((tkAt p i).1).t2)]) (v := .agg #[.int .i64 ((behind 2 1 (((rnd ((sl p : Nat) : Int)) : Nat) : Int) (((tkAt p i).1).t2)).s0), .int .i64 ((behind 2 1 (((rnd ((sl p : Nat) : Int)) : Nat) : Int) (((tkAt p i).1).t2)).s1), .int .i64 ((behind 2 1 (((rnd ((sl p : Nat) : Int)) : Nat) : Int) (((tkAt p i).1).t2)).s2)]) Try.call161 (ev4 rfl rfl rfl rfl) (fun w hs => behind_c 2 1 (((rnd ((sl p : Nat) : Int)) : Nat) : Int) (((tkAt p i).1).t2) w)) rfl) (.p .h (.p .h .nil)) ?_
          refine anyS_all (rs := [6]) (by kernel_rfl) (by simp) ?_
          intro i hi; obtain rfl := List.mem_singleton.1 hi; clear hi
          refine opS_0 rfl rfl ?_
          refine e_bsliceL (e := 144) (m := [(0, .agg #[.int .i64 ((behind 2 1 (((rnd ((sl p : Nat) : Int)) : Nat) : Int) (((tkAt p i).1).t2)).s0), .int .i64 ((behind 2 1 (((rnd ((sl p : Nat) : Int)) : Nat) : Int) (((tkAt p i).1).t2)).s1), .int .i64 ((behind 2 1 (((rnd ((sl p : Nat) : Int)) : Nat) : Int) (((tkAt p i).1).t2)).s2)])]) (l := [.int .i64 ((behind 2 1 (((rnd ((sl p : Nat) : Int)) : Nat) : Int) (((tkAt p i).1).t2)).s0), .int .i64 ((behind 2 1 (((rnd ((sl p : Nat) : Int)) : Nat) : Int) (((tkAt p i).1).t2)).s1), .int .i64 ((behind 2 1 (((rnd ((sl p : Nat) : Int)) : Nat) : Int) (((tkAt p i).1).t2)).s2)]) (evc rfl evn) (fun w => by kernel_rfl) ?_
          intro b_11
          refine ⟨.inr (.p (.t .h) (.p (.t .h) .nil)), ?_⟩
          refine anyS_take (i := 7) rfl (by kernel_rfl) (by kernel_rfl) (by kernel_rfl) (by kernel_rfl) (Yq.of (v := .slice (some ⟨b_11, 0, none⟩) 1 1) (y_assign rfl) rfl) (.p (.t .h) (.p (.t .h) .nil)) ?_
          refine anyS_done (by kernel_rfl) ?_
          refine thenS_n ?_
          refine wpS_seq ?_
          refine wpS_seq ?_
          refine wpS_region ?_
          refine s_y (v := .pointer (some ⟨b_2, 2, none⟩)) (y_fieldAddr (o' := 2) rfl Try.underlying120 rfl Try.sizeOf3 (by decide) rfl) rfl ?_
          refine s_y (v := .int .i64 (((tkAt p i).1).t2)) (y_load1 rfl Try.isAgg3 (own1 (.t .h) rfl)) rfl ?_
          refine s_y (v := .bool (decide ((0 : Int) < (((tkAt p i).1).t2)))) (y_gtr (a := ((tkAt p i).1).t2) (b := 0) rfl rfl rfl) rfl ?_
          refine wpL_nil ?_
          refine thenS_n ?_
          refine wpS_cond (t := decide ((0 : Int) < (((tkAt p i).1).t2))) rfl (fun b12 => ?_) (fun b12 => ?_)
          · -- decide ((0 : Int) < (((tkAt p i).1).t2)) true
            have p12 := of_decide_eq_true b12
            refine wpS_region ?_
            refine s_y (v := .slice (some ⟨b_11, 0, none⟩) 1 1) (y_move rfl) rfl ?_
            refine s_y (v := .pointer (some ⟨b_2, 2, none⟩)) (y_fieldAddr (o' := 2) rfl Try.underlying120 rfl Try.sizeOf3 (by decide) rfl) rfl ?_
            refine s_y (v := .int .i64 (((tkAt p i).1).t2)) (y_load1 rfl Try.isAgg3 (own1 (.t .h) rfl)) rfl ?_
            refine s_y (v := .int .i64 ((((tkAt p i).1).t2) - 1)) (y_sub (a := ((tkAt p i).1).t2) (b := 1) (c := (((tkAt p i).1).t2) - 1) rfl rfl (wI rfl (by omega) (by omega))) rfl ?_
            refine s_y (v := .agg #[.int .i64 4, .int .i64 0, .int .i64 ((((tkAt p i).1).t2) - 1)]) (y_buildL (m := [(0, .int .i64 4), (2, .int .i64 ((((tkAt p i).1).t2) - 1))]) (vs := #[.int .i64 4, .int .i64 0, .int .i64 ((((tkAt p i).1).t2) - 1)]) (evc rfl (evc rfl evn)) (fun w => by kernel_rfl)) rfl ?_
            refine s_e rfl ?_
            refine e_bsliceL (e := 144) (m := [(0, .agg #[.int .i64 4, .int .i64 0, .int .i64 ((((tkAt p i).1).t2) - 1)])]) (l := [.int .i64 4, .int .i64 0, .int .i64 ((((tkAt p i).1).t2) - 1)]) (evc rfl evn) (fun w => by kernel_rfl) ?_
            intro b_13
            refine s_e rfl ?_
            refine OpE.ent (SH.celO (n := 1) (sz := 3) (.t .h) rfl (by decide)) ?_
            refine e_appendL (enc := spotV) (xs := ([(behind 2 1 (((rnd ((sl p : Nat) : Int)) : Nat) : Int) (((tkAt p i).1).t2))] : List Spot)) (ns := ([(Spot.mk 4 0 ((((tkAt p i).1).t2) - 1))] : List Spot)) (zs := ([(behind 2 1 (((rnd ((sl p : Nat) : Int)) : Nat) : Int) (((tkAt p i).1).t2))] ++ [(Spot.mk 4 0 ((((tkAt p i).1).t2) - 1))])) (bytes := 24) spotV_len spotV_one Try.underlying58 (i := Try.t144) rfl rfl rfl rfl rfl (by decide) rfl rfl (by first | rfl | omega) (by first | rfl | omega) .h (fun w hs => celR (.t .h) w hs) (by first | rfl | simp) (by (try simp only [List.length_append, List.length_cons, List.length_nil] at *); omega) (by (try simp only [List.length_append, List.length_cons, List.length_nil] at *); omega) ?_
            intro a_15 c_16
            refine s_y (v := .slice a_15 (([(behind 2 1 (((rnd ((sl p : Nat) : Int)) : Nat) : Int) (((tkAt p i).1).t2))] ++ [(Spot.mk 4 0 ((((tkAt p i).1).t2) - 1))]).length) c_16) (y_assign rfl) rfl ?_
            refine wpL_nil ?_
            refine thenS_n ?_
            refine wpS_seq ?_
            refine wpS_region ?_
            refine s_y (v := .slice a_15 (([(behind 2 1 (((rnd ((sl p : Nat) : Int)) : Nat) : Int) (((tkAt p i).1).t2))] ++ [(Spot.mk 4 0 ((((tkAt p i).1).t2) - 1))]).length) c_16) (y_move rfl) rfl ?_
            refine s_y (v := .slice a_15 (([(behind 2 1 (((rnd ((sl p : Nat) : Int)) : Nat) : Int) (((tkAt p i).1).t2))] ++ [(Spot.mk 4 0 ((((tkAt p i).1).t2) - 1))]).length) c_16) (y_assign rfl) rfl ?_
            refine wpL_nil ?_
            refine thenS_n ?_
            refine wpS_ret ?_
            refine blockS_r ?_
            refine thenS_r ?_
            refine fin1 (M := [osl a_15 c_16 (([(behind 2 1 (((rnd ((sl p : Nat) : Int)) : Nat) : Int) (((tkAt p i).1).t2))] ++ [(Spot.mk 4 0 ((((tkAt p i).1).t2) - 1))]).length) 3 144 (([(behind 2 1 (((rnd ((sl p : Nat) : Int)) : Nat) : Int) (((tkAt p i).1).t2))] ++ [(Spot.mk 4 0 ((((tkAt p i).1).t2) - 1))]).flatMap spotV)]) (v := .slice a_15 (([(behind 2 1 (((rnd ((sl p : Nat) : Int)) : Nat) : Int) (((tkAt p i).1).t2))] ++ [(Spot.mk 4 0 ((((tkAt p i).1).t2) - 1))]).length) c_16) (.inr rfl) (.p .h .nil) Try.results124 rfl ?_
            exact fun w' hs => ⟨(a_15, c_16), by rw [show (readsP p i) = ([(behind 2 1 (((rnd ((sl p : Nat) : Int)) : Nat) : Int) (((tkAt p i).1).t2))] ++ [(Spot.mk 4 0 ((((tkAt p i).1).t2) - 1))]) from (by rw [readsP_yes (by assumption), rt_4a (by assumption) (by omega)] <;> rfl)], by rw [show (readsP p i) = ([(behind 2 1 (((rnd ((sl p : Nat) : Int)) : Nat) : Int) (((tkAt p i).1).t2))] ++ [(Spot.mk 4 0 ((((tkAt p i).1).t2) - 1))]) from (by rw [readsP_yes (by assumption), rt_4a (by assumption) (by omega)] <;> rfl)]; exact hs, trivial⟩
          · -- decide ((0 : Int) < (((tkAt p i).1).t2)) false
            have p12 := of_decide_eq_false b12
            refine wpS_skip ?_
            refine thenS_n ?_
            refine wpS_seq ?_
            refine wpS_region ?_
            refine s_y (v := .slice (some ⟨b_11, 0, none⟩) 1 1) (y_move rfl) rfl ?_
            refine s_y (v := .slice (some ⟨b_11, 0, none⟩) 1 1) (y_assign rfl) rfl ?_
            refine wpL_nil ?_
            refine thenS_n ?_
            refine wpS_ret ?_
            refine blockS_r ?_
            refine thenS_r ?_
            refine fin1 (M := [cel b_11 144 [.int .i64 ((behind 2 1 (((rnd ((sl p : Nat) : Int)) : Nat) : Int) (((tkAt p i).1).t2)).s0), .int .i64 ((behind 2 1 (((rnd ((sl p : Nat) : Int)) : Nat) : Int) (((tkAt p i).1).t2)).s1), .int .i64 ((behind 2 1 (((rnd ((sl p : Nat) : Int)) : Nat) : Int) (((tkAt p i).1).t2)).s2)]]) (v := .slice (some ⟨b_11, 0, none⟩) 1 1) (.inr rfl) (.p .h .nil) Try.results124 rfl ?_
            exact fun w' hs => ⟨(some ⟨b_11, 0, none⟩, 1), by rw [show (readsP p i) = [(behind 2 1 (((rnd ((sl p : Nat) : Int)) : Nat) : Int) (((tkAt p i).1).t2))] from (by rw [readsP_yes (by assumption), rt_4b (by assumption) (by omega)] <;> rfl)]; rfl, by rw [show (readsP p i) = [(behind 2 1 (((rnd ((sl p : Nat) : Int)) : Nat) : Int) (((tkAt p i).1).t2))] from (by rw [readsP_yes (by assumption), rt_4b (by assumption) (by omega)] <;> rfl)]; exact SH.celO (n := 1) (sz := 3) .h rfl (by decide) w' hs, trivial⟩
        · -- decide ((((tkAt p i).1).t0 : Int) = 4) false
          have p10 := of_decide_eq_false b10
          refine wpS_seq ?_
          refine wpS_region ?_
          refine s_y (v := .bool (decide ((((tkAt p i).1).t0 : Int) = 5))) (y_eql (a := ((tkAt p i).1).t0) (b := 5) rfl rfl rfl) rfl ?_
          refine s_y (v := .bool (decide ((((tkAt p i).1).t0 : Int) = 5))) (y_assign rfl) rfl ?_
          refine wpL_nil ?_
          refine thenS_n ?_
          refine wpS_cond (t := decide ((((tkAt p i).1).t0 : Int) = 5)) rfl (fun b17 => ?_) (fun b17 => ?_)
          · -- decide ((((tkAt p i).1).t0 : Int) = 5) true
            have p17 := of_decide_eq_true b17
            refine wpS_seq ?_
            refine wpS_anyL [cel b_2 120 [.int .i64 (((tkAt p i).1).t0), .int .i64 (((tkAt p i).1).t1), .int .i64 (((tkAt p i).1).t2), .int .i64 (((tkAt p i).1).t3), .bool (((tkAt p i).1).t4)]] [] (by kernel_rfl) ?_
            refine anyS_take (i := 0) rfl (by kernel_rfl) (by kernel_rfl) (by kernel_rfl) (by kernel_rfl) (Yq.of (v := .pointer (some ⟨b_2, 1, none⟩)) (y_fieldAddr (o' := 1) rfl Try.underlying120 rfl Try.sizeOf3 (by decide) rfl) rfl) (.p .h .nil) ?_
            refine anyS_take (i := 1) rfl (by kernel_rfl) (by kernel_rfl) (by kernel_rfl) (by kernel_rfl) (Yq.of (v := .int .i64 (((tkAt p i).1).t1)) (y_load1 rfl Try.isAgg3 (own1 .h rfl)) rfl) (.p .h .nil) ?_
            refine anyS_take (i := 2) rfl (by kernel_rfl) (by kernel_rfl) (by kernel_rfl) (by kernel_rfl) (Yq.of (v := .int .i64 ((((tkAt p i).1).t1) - 1)) (y_sub (a := ((tkAt p i).1).t1) (b := 1) (c := (((tkAt p i).1).t1) - 1) rfl rfl (wI rfl (by omega) (by omega))) rfl) (.p .h .nil) ?_
            refine anyS_take (i := 3) rfl (by kernel_rfl) (by kernel_rfl) (by kernel_rfl) (by kernel_rfl) (Yq.of (v := .pointer (some ⟨b_2, 2, none⟩)) (y_fieldAddr (o' := 2) rfl Try.underlying120 rfl Try.sizeOf3 (by decide) rfl) rfl) (.p .h .nil) ?_
            refine anyS_take (i := 4) rfl (by kernel_rfl) (by kernel_rfl) (by kernel_rfl) (by kernel_rfl) (Yq.of (v := .int .i64 (((tkAt p i).1).t2)) (y_load1 rfl Try.isAgg3 (own1 .h rfl)) rfl) (.p .h .nil) ?_
            refine anyS_take (i := 5) rfl (by kernel_rfl) (by kernel_rfl) (by kernel_rfl) (by kernel_rfl) (Yq.of (v := .agg #[.int .i64 ((behind 5 3 ((((tkAt p i).1).t1) - 1) (((tkAt p i).1).t2)).s0), .int .i64 ((behind 5 3 ((((tkAt p i).1).t1) - 1) (((tkAt p i).1).t2)).s1), .int .i64 ((behind 5 3 ((((tkAt p i).1).t1) - 1) (((tkAt p i).1).t2)).s2)]) (y_call (args := #[.int .i64 5, .int .i64 3, .int .i64 ((((tkAt p i).1).t1) - 1), .int .i64 (((tkAt p i).1).t2)]) (v := .agg #[.int .i64 ((behind 5 3 ((((tkAt p i).1).t1) - 1) (((tkAt p i).1).t2)).s0), .int .i64 ((behind 5 3 ((((tkAt p i).1).t1) - 1) (((tkAt p i).1).t2)).s1), .int .i64 ((behind 5 3 ((((tkAt p i).1).t1) - 1) (((tkAt p i).1).t2)).s2)]) Try.call161 (ev4 rfl rfl rfl rfl) (fun w hs => behind_c 5 3 ((((tkAt p i).1).t1) - 1) (((tkAt p i).1).t2) w)) rfl) (.p .h .nil) ?_
            refine anyS_take (i := 6) rfl (by kernel_rfl) (by kernel_rfl) (by kernel_rfl) (by kernel_rfl) (Yq.of (v := .pointer (some ⟨b_2, 1, none⟩)) (y_fieldAddr (o' := 1) rfl Try.underlying120 rfl Try.sizeOf3 (by decide) rfl) rfl) (.p .h .nil) ?_
            refine anyS_take (i := 7) rfl (by kernel_rfl) (by kernel_rfl) (by kernel_rfl) (by kernel_rfl) (Yq.of (v := .int .i64 (((tkAt p i).1).t1)) (y_load1 rfl Try.isAgg3 (own1 .h rfl)) rfl) (.p .h .nil) ?_
            refine anyS_take (i := 8) rfl (by kernel_rfl) (by kernel_rfl) (by kernel_rfl) (by kernel_rfl) (Yq.of (v := .int .i64 ((((tkAt p i).1).t1) - 1)) (y_sub (a := ((tkAt p i).1).t1) (b := 1) (c := (((tkAt p i).1).t1) - 1) rfl rfl (wI rfl (by omega) (by omega))) rfl) (.p .h .nil) ?_
            refine anyS_take (i := 9) rfl (by kernel_rfl) (by kernel_rfl) (by kernel_rfl) (by kernel_rfl) (Yq.of (v := .pointer (some ⟨b_2, 3, none⟩)) (y_fieldAddr (o' := 3) rfl Try.underlying120 rfl Try.sizeOf3 (by decide) rfl) rfl) (.p .h .nil) ?_
            refine anyS_take (i := 10) rfl (by kernel_rfl) (by kernel_rfl) (by kernel_rfl) (by kernel_rfl) (Yq.of (v := .int .i64 (((tkAt p i).1).t3)) (y_load1 rfl Try.isAgg3 (own1 .h rfl)) rfl) (.p .h .nil) ?_
            refine anyS_take (i := 11) rfl (by kernel_rfl) (by kernel_rfl) (by kernel_rfl) (by kernel_rfl) (Yq.of (v := .agg #[.int .i64 ((behind 5 3 ((((tkAt p i).1).t1) - 1) (((tkAt p i).1).t3)).s0), .int .i64 ((behind 5 3 ((((tkAt p i).1).t1) - 1) (((tkAt p i).1).t3)).s1), .int .i64 ((behind 5 3 ((((tkAt p i).1).t1) - 1) (((tkAt p i).1).t3)).s2)]) (y_call (args := #[.int .i64 5, .int .i64 3, .int .i64 ((((tkAt p i).1).t1) - 1), .int .i64 (((tkAt p i).1).t3)]) (v := .agg #[.int .i64 ((behind 5 3 ((((tkAt p i).1).t1) - 1) (((tkAt p i).1).t3)).s0), .int .i64 ((behind 5 3 ((((tkAt p i).1).t1) - 1) (((tkAt p i).1).t3)).s1), .int .i64 ((behind 5 3 ((((tkAt p i).1).t1) - 1) (((tkAt p i).1).t3)).s2)]) Try.call161 (ev4 rfl rfl rfl rfl) (fun w hs => behind_c 5 3 ((((tkAt p i).1).t1) - 1) (((tkAt p i).1).t3) w)) rfl) (.p .h .nil) ?_
            refine anyS_all (rs := [12]) (by kernel_rfl) (by simp) ?_
            intro i hi; obtain rfl := List.mem_singleton.1 hi; clear hi
            refine opS_0 rfl rfl ?_
            refine e_bsliceL (e := 144) (m := [(0, .agg #[.int .i64 ((behind 5 3 ((((tkAt p i).1).t1) - 1) (((tkAt p i).1).t2)).s0), .int .i64 ((behind 5 3 ((((tkAt p i).1).t1) - 1) (((tkAt p i).1).t2)).s1), .int .i64 ((behind 5 3 ((((tkAt p i).1).t1) - 1) (((tkAt p i).1).t2)).s2)]), (1, .agg #[.int .i64 ((behind 5 3 ((((tkAt p i).1).t1) - 1) (((tkAt p i).1).t3)).s0), .int .i64 ((behind 5 3 ((((tkAt p i).1).t1) - 1) (((tkAt p i).1).t3)).s1), .int .i64 ((behind 5 3 ((((tkAt p i).1).t1) - 1) (((tkAt p i).1).t3)).s2)])]) (l := [.int .i64 ((behind 5 3 ((((tkAt p i).1).t1) - 1) (((tkAt p i).1).t2)).s0), .int .i64 ((behind 5 3 ((((tkAt p i).1).t1) - 1) (((tkAt p i).1).t2)).s1), .int .i64 ((behind 5 3 ((((tkAt p i).1).t1) - 1) (((tkAt p i).1).t2)).s2), .int .i64 ((behind 5 3 ((((tkAt p i).1).t1) - 1) (((tkAt p i).1).t3)).s0), .int .i64 ((behind 5 3 ((((tkAt p i).1).t1) - 1) (((tkAt p i).1).t3)).s1), .int .i64 ((behind 5 3 ((((tkAt p i).1).t1) - 1) (((tkAt p i).1).t3)).s2)]) (evc rfl (evc rfl evn)) (fun w => by kernel_rfl) ?_
            intro b_18
            refine ⟨.inr (.p (.t .h) .nil), ?_⟩
            refine anyS_take (i := 13) rfl (by kernel_rfl) (by kernel_rfl) (by kernel_rfl) (by kernel_rfl) (Yq.of (v := .slice (some ⟨b_18, 0, none⟩) 2 2) (y_assign rfl) rfl) (.p (.t .h) .nil) ?_
            refine anyS_done (by kernel_rfl) ?_
            refine thenS_n ?_
            refine wpS_ret ?_
            refine blockS_r ?_
            refine thenS_r ?_
            refine fin1 (M := [cel b_18 144 [.int .i64 ((behind 5 3 ((((tkAt p i).1).t1) - 1) (((tkAt p i).1).t2)).s0), .int .i64 ((behind 5 3 ((((tkAt p i).1).t1) - 1) (((tkAt p i).1).t2)).s1), .int .i64 ((behind 5 3 ((((tkAt p i).1).t1) - 1) (((tkAt p i).1).t2)).s2), .int .i64 ((behind 5 3 ((((tkAt p i).1).t1) - 1) (((tkAt p i).1).t3)).s0), .int .i64 ((behind 5 3 ((((tkAt p i).1).t1) - 1) (((tkAt p i).1).t3)).s1), .int .i64 ((behind 5 3 ((((tkAt p i).1).t1) - 1) (((tkAt p i).1).t3)).s2)]]) (v := .slice (some ⟨b_18, 0, none⟩) 2 2) (.inr rfl) (.p .h .nil) Try.results124 rfl ?_
            exact fun w' hs => ⟨(some ⟨b_18, 0, none⟩, 2), by rw [show (readsP p i) = [(behind 5 3 ((((tkAt p i).1).t1) - 1) (((tkAt p i).1).t2)), (behind 5 3 ((((tkAt p i).1).t1) - 1) (((tkAt p i).1).t3))] from (by rw [readsP_yes (by assumption), rt_5 (by assumption)] <;> rfl)]; rfl, by rw [show (readsP p i) = [(behind 5 3 ((((tkAt p i).1).t1) - 1) (((tkAt p i).1).t2)), (behind 5 3 ((((tkAt p i).1).t1) - 1) (((tkAt p i).1).t3))] from (by rw [readsP_yes (by assumption), rt_5 (by assumption)] <;> rfl)]; exact SH.celO (n := 2) (sz := 3) .h rfl (by decide) w' hs, trivial⟩
          · -- decide ((((tkAt p i).1).t0 : Int) = 5) false
            have p17 := of_decide_eq_false b17
            refine wpS_skip ?_
            refine blockS_n ?_
            refine thenS_n ?_
            refine wpS_seq ?_
            refine wpS_region ?_
            refine s_y (v := .slice none 0 0) (y_assign rfl) rfl ?_
            refine wpL_nil ?_
            refine thenS_n ?_
            refine wpS_ret ?_
            refine finNil (.inr rfl) .nil Try.results124 rfl (sz := 3) (ty := 144) ?_
            exact fun w' hs => ⟨(none, 0), by rw [show (readsP p i) = [] from (by rw [readsP_yes (by assumption), rt_n (by assumption) (by assumption) (by assumption) (by assumption)] <;> rfl)]; rfl, by rw [show (readsP p i) = [] from (by rw [readsP_yes (by assumption), rt_n (by assumption) (by assumption) (by assumption) (by assumption)] <;> rfl)]; exact hs, trivial⟩

theorem writes_c (p : Par) (i : Int) (w : World) : MakesS Try.prog 126 #[.agg #[.int .i64 (p.n0), .int .i64 (p.n1), .int .i64 (p.n2), .int .i64 (p.n3)], .int .i64 i] w [] spotV 3 144 (writesP p i) := by
  refine calls_S (n := 78) (σ0 := (upd (upd fr0 0 (.agg #[.int .i64 (p.n0), .int .i64 (p.n1), .int .i64 (p.n2), .int .i64 (p.n3)])) 1 (.int .i64 i))) (D := []) (A := []) Try.func126 rfl Try.ntmps126 rfl (a2_fr _ _) (SH.start w) ?_
  refine wpS_seq ?_
  refine wpS_region ?_
  refine s_e rfl ?_
  refine e_box (v := .agg #[.int .i64 (p.n0), .int .i64 (p.n1), .int .i64 (p.n2), .int .i64 (p.n3)]) (l := [.int .i64 (p.n0), .int .i64 (p.n1), .int .i64 (p.n2), .int .i64 (p.n3)]) rfl rfl ?_
  intro b_1
  refine s_y (v := .slice none 0 0) (y_assign rfl) rfl ?_
  refine wpL_nil ?_
  refine thenS_n ?_
  refine wpS_seq ?_
  refine wpS_region ?_
  refine s_y (v := .agg #[.int .i64 (p.n0), .int .i64 (p.n1), .int .i64 (p.n2), .int .i64 (p.n3)]) (y_loadN (vs := [.int .i64 (p.n0), .int .i64 (p.n1), .int .i64 (p.n2), .int .i64 (p.n3)]) rfl Try.isAgg53 Try.sizeOf53 (ownN .h rfl)) rfl ?_
  refine s_y (v := .int .i64 i) (y_move rfl) rfl ?_
  refine s_y (v := .tuple #[.agg #[.int .i64 (((tkAt p i).1).t0), .int .i64 (((tkAt p i).1).t1), .int .i64 (((tkAt p i).1).t2), .int .i64 (((tkAt p i).1).t3), .bool (((tkAt p i).1).t4)], .bool ((tkAt p i).2)]) (y_call (args := #[.agg #[.int .i64 (p.n0), .int .i64 (p.n1), .int .i64 (p.n2), .int .i64 (p.n3)], .int .i64 i]) (v := .tuple #[.agg #[.int .i64 (((tkAt p i).1).t0), .int .i64 (((tkAt p i).1).t1), .int .i64 (((tkAt p i).1).t2), .int .i64 (((tkAt p i).1).t3), .bool (((tkAt p i).1).t4)], .bool ((tkAt p i).2)]) Try.call122 (ev2 rfl rfl) (fun w hs => task_c p i w)) rfl ?_
  refine s_y (v := .tuple #[.agg #[.int .i64 (((tkAt p i).1).t0), .int .i64 (((tkAt p i).1).t1), .int .i64 (((tkAt p i).1).t2), .int .i64 (((tkAt p i).1).t3), .bool (((tkAt p i).1).t4)], .bool ((tkAt p i).2)]) (y_move rfl) rfl ?_
  refine s_y (v := .agg #[.int .i64 (((tkAt p i).1).t0), .int .i64 (((tkAt p i).1).t1), .int .i64 (((tkAt p i).1).t2), .int .i64 (((tkAt p i).1).t3), .bool (((tkAt p i).1).t4)]) (y_extract (v := .agg #[.int .i64 (((tkAt p i).1).t0), .int .i64 (((tkAt p i).1).t1), .int .i64 (((tkAt p i).1).t2), .int .i64 (((tkAt p i).1).t3), .bool (((tkAt p i).1).t4)]) rfl rfl) rfl ?_
  refine s_y (v := .bool ((tkAt p i).2)) (y_extract (v := .bool ((tkAt p i).2)) rfl rfl) rfl ?_
  refine s_e rfl ?_
  refine e_alloc (l := [.int .i64 0, .int .i64 0, .int .i64 0, .int .i64 0, .bool false]) Try.zeroValue120 rfl ?_
  intro b_2
  refine s_e0 ?_
  refine e_store (vs := [.int .i64 (((tkAt p i).1).t0), .int .i64 (((tkAt p i).1).t1), .int .i64 (((tkAt p i).1).t2), .int .i64 (((tkAt p i).1).t3), .bool (((tkAt p i).1).t4)]) (l' := [.int .i64 (((tkAt p i).1).t0), .int .i64 (((tkAt p i).1).t1), .int .i64 (((tkAt p i).1).t2), .int .i64 (((tkAt p i).1).t3), .bool (((tkAt p i).1).t4)]) rfl rfl rfl rfl Try.sizeOf120 .h (Nat.le_of_ble_eq_true rfl) rfl ?_
  refine s_y (v := .bool ((tkAt p i).2)) (y_assign rfl) rfl ?_
  refine wpL_nil ?_
  refine thenS_n ?_
  refine wpS_seq ?_
  refine wpS_seq ?_
  refine wpS_region ?_
  refine s_y (v := .bool ((tkAt p i).2)) (y_move rfl) rfl ?_
  refine s_y (v := .bool (!((tkAt p i).2))) (y_not (b := (tkAt p i).2) rfl) rfl ?_
  refine wpL_nil ?_
  refine thenS_n ?_
  refine wpS_cond (t := !((tkAt p i).2)) rfl (fun b3 => ?_) (fun b3 => ?_)
  · -- !((tkAt p i).2) true
    have b4 : ((tkAt p i).2) = false := by simpa using b3
    refine wpS_seq ?_
    refine wpS_region ?_
    refine s_y (v := .slice none 0 0) (y_assign rfl) rfl ?_
    refine wpL_nil ?_
    refine thenS_n ?_
    refine wpS_ret ?_
    refine thenS_r ?_
    refine finNil (.inr rfl) .nil Try.results126 rfl (sz := 3) (ty := 144) ?_
    exact fun w' hs => ⟨(none, 0), by rw [show (writesP p i) = [] from (writesP_no (by assumption))]; rfl, by rw [show (writesP p i) = [] from (writesP_no (by assumption))]; exact hs, trivial⟩
  · -- !((tkAt p i).2) false
    have b5 : ((tkAt p i).2) = true := by simpa using b3
    have hbd := tk_bd b5
    have hn1 := tk_n1 b5
    refine wpS_skip ?_
    refine thenS_n ?_
    refine wpS_seq ?_
    refine wpS_seq ?_
    refine wpS_region ?_
    refine s_y (v := .pointer (some ⟨b_2, 0, none⟩)) (y_fieldAddr (o' := 0) rfl Try.underlying120 rfl Try.sizeOf3 (by decide) rfl) rfl ?_
    refine s_y (v := .int .i64 (((tkAt p i).1).t0)) (y_load1 rfl Try.isAgg3 (own1 .h rfl)) rfl ?_
    refine wpL_nil ?_
    refine thenS_n ?_
    refine wpS_block ?_
    refine wpS_seq ?_
    refine wpS_region ?_
    refine s_y (v := .bool (decide ((((tkAt p i).1).t0 : Int) = 1))) (y_eql (a := ((tkAt p i).1).t0) (b := 1) rfl rfl rfl) rfl ?_
    refine s_y (v := .bool (decide ((((tkAt p i).1).t0 : Int) = 1))) (y_assign rfl) rfl ?_
    refine wpL_nil ?_
    refine thenS_n ?_
    refine wpS_cond (t := decide ((((tkAt p i).1).t0 : Int) = 1)) rfl (fun b6 => ?_) (fun b6 => ?_)
    · -- decide ((((tkAt p i).1).t0 : Int) = 1) true
      have p6 := of_decide_eq_true b6
      refine wpS_seq ?_
      refine wpS_region ?_
      refine s_y (v := .slice none 0 0) (y_assign rfl) rfl ?_
      refine wpL_nil ?_
      refine thenS_n ?_
      refine wpS_seq ?_
      refine wpS_seq ?_
      refine wpS_region ?_
      refine s_y (v := .pointer (some ⟨b_1, 1, none⟩)) (y_fieldAddr (o' := 1) rfl Try.underlying53 rfl Try.sizeOf3 (by decide) rfl) rfl ?_
      refine s_y (v := .int .i64 (p.n1)) (y_load1 rfl Try.isAgg3 (own1 (.t .h) rfl)) rfl ?_
      refine s_y (v := .int .i64 0) (y_move rfl) rfl ?_
      refine wpL_nil ?_
      refine thenS_n ?_
      refine wpS_block ?_
      refine wpS_nil0 3 144 ?_
      refine wpS_loop (fun mez ds σ L => ∃ j : Nat, ∃ a1 : Option Addr, ∃ c1 : Nat, mez = p.n1.toNat - j ∧ (j ≤ p.n1.toNat) ∧ ds = [] ∧ σ 2 = .pointer (some ⟨b_1, 0, none⟩) ∧ σ 5 = .pointer (some ⟨b_2, 0, none⟩) ∧ σ 7 = .slice a1 ((blkS p.n1 (tkAt p i).1.t2 j).length) c1 ∧ σ 22 = .int .i64 (p.n1) ∧ σ 23 = .int .i64 (((j : Nat) : Int)) ∧ Ent L [osl a1 c1 ((blkS p.n1 (tkAt p i).1.t2 j).length) 3 144 ((blkS p.n1 (tkAt p i).1.t2 j).flatMap spotV), cel b_2 120 [.int .i64 (((tkAt p i).1).t0), .int .i64 (((tkAt p i).1).t1), .int .i64 (((tkAt p i).1).t2), .int .i64 (((tkAt p i).1).t3), .bool (((tkAt p i).1).t4)], cel b_1 53 [.int .i64 (p.n0), .int .i64 (p.n1), .int .i64 (p.n2), .int .i64 (p.n3)]]) (m0 := p.n1.toNat - 0) ⟨0, none, 0, rfl, by omega, rfl, rfl, rfl, rfl, rfl, rfl, .p .h (.p .h (.p .h .nil))⟩ ?_
      rintro mez ds σ L ⟨j, a1, c1, hm_7, hf0_7, rfl, h2_7, h5_7, h7_7, h22_7, h23_7, hE_7⟩
      refine wpS_ent hE_7 ?_; clear hE_7
      refine wpS_seq ?_
      refine wpS_region ?_
      refine s_y (v := .bool (decide ((((j : Nat) : Int) : Int) < p.n1))) (y_lss (a := ((j : Nat) : Int)) (b := p.n1) h23_7 h22_7 rfl) rfl ?_
      refine wpL_nil ?_
      refine thenS_n ?_
      refine wpS_seq ?_
      refine wpS_cond (t := decide ((((j : Nat) : Int) : Int) < p.n1)) rfl (fun b8 => ?_) (fun b8 => ?_)
      · -- decide ((((j : Nat) : Int) : Int) < p.n1) true
        have p8 := of_decide_eq_true b8
        refine wpS_skip ?_
        refine thenS_n ?_
        refine wpS_seq ?_
        refine wpS_block ?_
        refine wpS_seq ?_
        refine wpS_region ?_
        refine s_y (v := .int .i64 (((j : Nat) : Int))) (y_move h23_7) rfl ?_
        refine s_y (v := .int .i64 (((j : Nat) : Int))) (y_assign rfl) rfl ?_
        refine wpL_nil ?_
        refine thenS_n ?_
        refine wpS_region ?_
        refine s_y (v := .slice a1 ((blkS p.n1 (tkAt p i).1.t2 j).length) c1) (y_move h7_7) rfl ?_
        refine s_y (v := .pointer (some ⟨b_1, 1, none⟩)) (y_fieldAddr (o' := 1) h2_7 Try.underlying53 rfl Try.sizeOf3 (by decide) rfl) rfl ?_
        refine s_y (v := .int .i64 (p.n1)) (y_load1 rfl Try.isAgg3 (own1 (.t (.t .h)) rfl)) rfl ?_
        refine s_y (v := .pointer (some ⟨b_2, 2, none⟩)) (y_fieldAddr (o' := 2) h5_7 Try.underlying120 rfl Try.sizeOf3 (by decide) rfl) rfl ?_
        refine s_y (v := .int .i64 (((tkAt p i).1).t2)) (y_load1 rfl Try.isAgg3 (own1 (.t .h) rfl)) rfl ?_
        have hmb := mul4_bd (a := p.n1) (b := (tkAt p i).1.t2) (by omega) (by omega) (by omega) (by omega)
        refine s_y (v := .int .i64 (p.n1 * (tkAt p i).1.t2)) (y_mul (a := p.n1) (b := ((tkAt p i).1).t2) (c := p.n1 * (tkAt p i).1.t2) rfl rfl (wI rfl (by omega) (by omega))) rfl ?_
        refine s_y (v := .int .i64 (((j : Nat) : Int))) (y_move rfl) rfl ?_
        refine s_y (v := .int .i64 ((p.n1 * (tkAt p i).1.t2) + ((j : Nat) : Int))) (y_add (a := p.n1 * (tkAt p i).1.t2) (b := ((j : Nat) : Int)) (c := (p.n1 * (tkAt p i).1.t2) + ((j : Nat) : Int)) rfl rfl (wI rfl (by omega) (by omega))) rfl ?_
        refine s_y (v := .agg #[.int .i64 1, .int .i64 0, .int .i64 ((p.n1 * (tkAt p i).1.t2) + ((j : Nat) : Int))]) (y_buildL (m := [(0, .int .i64 1), (2, .int .i64 ((p.n1 * (tkAt p i).1.t2) + ((j : Nat) : Int)))]) (vs := #[.int .i64 1, .int .i64 0, .int .i64 ((p.n1 * (tkAt p i).1.t2) + ((j : Nat) : Int))]) (evc rfl (evc rfl evn)) (fun w => by kernel_rfl)) rfl ?_
        refine s_e rfl ?_
        refine e_bsliceL (e := 144) (m := [(0, .agg #[.int .i64 1, .int .i64 0, .int .i64 ((p.n1 * (tkAt p i).1.t2) + ((j : Nat) : Int))])]) (l := [.int .i64 1, .int .i64 0, .int .i64 ((p.n1 * (tkAt p i).1.t2) + ((j : Nat) : Int))]) (evc rfl evn) (fun w => by kernel_rfl) ?_
        intro b_9
        refine s_e rfl ?_
        refine e_appendL (enc := spotV) (xs := ((blkS p.n1 (tkAt p i).1.t2 j) : List Spot)) (ns := ([(Spot.mk 1 0 ((p.n1 * (tkAt p i).1.t2) + ((j : Nat) : Int)))] : List Spot)) (zs := (blkS p.n1 (tkAt p i).1.t2 (j + 1))) (bytes := 24) spotV_len spotV_one Try.underlying58 (i := Try.t144) rfl rfl rfl rfl rfl (by decide) rfl rfl (by first | rfl | omega) (by first | rfl | omega) (.t .h) (fun w hs => celR .h w hs) (blkS_next _ _ j) (by rw [blkS_len]; omega) (by rw [blkS_len]; omega) ?_
        intro a_10 c_11
        refine s_y (v := .slice a_10 ((blkS p.n1 (tkAt p i).1.t2 (j + 1)).length) c_11) (y_assign rfl) rfl ?_
        refine wpL_nil ?_
        refine blockS_n ?_
        refine thenS_n ?_
        refine wpS_region ?_
        refine s_y (v := .int .i64 ((((j + 1) : Nat) : Int))) (y_add (a := ((j : Nat) : Int)) (b := 1) (c := (((j + 1) : Nat) : Int)) h23_7 rfl (wI (by omega) (by omega) (by omega))) rfl ?_
        refine s_y (v := .int .i64 ((((j + 1) : Nat) : Int))) (y_move rfl) rfl ?_
        refine wpL_nil ?_
        refine thenS_n ?_
        exact ⟨_, by omega, ⟨(j + 1), a_10, c_11, rfl, by omega, rfl, h2_7, h5_7, rfl, h22_7, rfl, .p .h (.p (.t .h) (.p (.t .h) .nil))⟩⟩
      · -- decide ((((j : Nat) : Int) : Int) < p.n1) false
        have p8 := of_decide_eq_false b8
        refine wpS_exit ?_
        refine thenS_x ?_
        refine thenS_x ?_
        refine blockS_h ?_
        refine thenS_n ?_
        refine wpS_seq ?_
        refine wpS_region ?_
        refine s_y (v := .slice a1 ((blkS p.n1 (tkAt p i).1.t2 j).length) c1) (y_move h7_7) rfl ?_
        refine s_y (v := .slice a1 ((blkS p.n1 (tkAt p i).1.t2 j).length) c1) (y_assign rfl) rfl ?_
        refine wpL_nil ?_
        refine thenS_n ?_
        refine wpS_ret ?_
        refine blockS_r ?_
        refine thenS_r ?_
        refine fin1 (M := [osl a1 c1 ((blkS p.n1 (tkAt p i).1.t2 j).length) 3 144 ((blkS p.n1 (tkAt p i).1.t2 j).flatMap spotV)]) (v := .slice a1 ((blkS p.n1 (tkAt p i).1.t2 j).length) c1) (.inr rfl) (.p .h .nil) Try.results126 rfl ?_
        exact fun w' hs => ⟨(a1, c1), by rw [show (writesP p i) = (blkS p.n1 (tkAt p i).1.t2 j) from (by rw [writesP_yes (by assumption), wt_1 (by assumption), show j = p.n1.toNat by omega] <;> rfl)], by rw [show (writesP p i) = (blkS p.n1 (tkAt p i).1.t2 j) from (by rw [writesP_yes (by assumption), wt_1 (by assumption), show j = p.n1.toNat by omega] <;> rfl)]; exact hs, trivial⟩
    · -- decide ((((tkAt p i).1).t0 : Int) = 1) false
      have p6 := of_decide_eq_false b6
      refine wpS_seq ?_
      refine wpS_region ?_
      refine s_y (v := .bool (decide ((((tkAt p i).1).t0 : Int) = 2))) (y_eql (a := ((tkAt p i).1).t0) (b := 2) rfl rfl rfl) rfl ?_
      refine s_y (v := .bool (decide ((((tkAt p i).1).t0 : Int) = 2))) (y_assign rfl) rfl ?_
      refine wpL_nil ?_
      refine thenS_n ?_
      refine wpS_cond (t := decide ((((tkAt p i).1).t0 : Int) = 2)) rfl (fun b12 => ?_) (fun b12 => ?_)
      · -- decide ((((tkAt p i).1).t0 : Int) = 2) true
        have p12 := of_decide_eq_true b12
        refine wpS_seq ?_
        refine wpS_region ?_
        refine s_y (v := .pointer (some ⟨b_2, 2, none⟩)) (y_fieldAddr (o' := 2) rfl Try.underlying120 rfl Try.sizeOf3 (by decide) rfl) rfl ?_
        refine s_y (v := .int .i64 (((tkAt p i).1).t2)) (y_load1 rfl Try.isAgg3 (own1 .h rfl)) rfl ?_
        refine s_y (v := .agg #[.int .i64 1, .int .i64 0, .int .i64 (((tkAt p i).1).t2)]) (y_buildL (m := [(0, .int .i64 1), (2, .int .i64 (((tkAt p i).1).t2))]) (vs := #[.int .i64 1, .int .i64 0, .int .i64 (((tkAt p i).1).t2)]) (evc rfl (evc rfl evn)) (fun w => by kernel_rfl)) rfl ?_
        refine s_e rfl ?_
        refine e_bsliceL (e := 144) (m := [(0, .agg #[.int .i64 1, .int .i64 0, .int .i64 (((tkAt p i).1).t2)])]) (l := [.int .i64 1, .int .i64 0, .int .i64 (((tkAt p i).1).t2)]) (evc rfl evn) (fun w => by kernel_rfl) ?_
        intro b_13
        refine s_y (v := .slice (some ⟨b_13, 0, none⟩) 1 1) (y_assign rfl) rfl ?_
        refine wpL_nil ?_
        refine thenS_n ?_
        refine wpS_ret ?_
        refine blockS_r ?_
        refine thenS_r ?_
        refine fin1 (M := [cel b_13 144 [.int .i64 1, .int .i64 0, .int .i64 (((tkAt p i).1).t2)]]) (v := .slice (some ⟨b_13, 0, none⟩) 1 1) (.inr rfl) (.p .h .nil) Try.results126 rfl ?_
        exact fun w' hs => ⟨(some ⟨b_13, 0, none⟩, 1), by rw [show (writesP p i) = [(Spot.mk 1 0 (((tkAt p i).1).t2))] from (by rw [writesP_yes (by assumption), wt_2 (by assumption)] <;> rfl)]; rfl, by rw [show (writesP p i) = [(Spot.mk 1 0 (((tkAt p i).1).t2))] from (by rw [writesP_yes (by assumption), wt_2 (by assumption)] <;> rfl)]; exact SH.celO (n := 1) (sz := 3) .h rfl (by decide) w' hs, trivial⟩
      · -- decide ((((tkAt p i).1).t0 : Int) = 2) false
        have p12 := of_decide_eq_false b12
        refine wpS_seq ?_
        refine wpS_region ?_
        refine s_y (v := .bool (decide ((((tkAt p i).1).t0 : Int) = 3))) (y_eql (a := ((tkAt p i).1).t0) (b := 3) rfl rfl rfl) rfl ?_
        refine s_y (v := .bool (decide ((((tkAt p i).1).t0 : Int) = 3))) (y_assign rfl) rfl ?_
        refine wpL_nil ?_
        refine thenS_n ?_
        refine wpS_cond (t := decide ((((tkAt p i).1).t0 : Int) = 3)) rfl (fun b14 => ?_) (fun b14 => ?_)
        · -- decide ((((tkAt p i).1).t0 : Int) = 3) true
          have p14 := of_decide_eq_true b14
          refine wpS_seq ?_
          refine wpS_region ?_
          refine s_y (v := .pointer (some ⟨b_2, 1, none⟩)) (y_fieldAddr (o' := 1) rfl Try.underlying120 rfl Try.sizeOf3 (by decide) rfl) rfl ?_
          refine s_y (v := .int .i64 (((tkAt p i).1).t1)) (y_load1 rfl Try.isAgg3 (own1 .h rfl)) rfl ?_
          refine s_y (v := .pointer (some ⟨b_2, 2, none⟩)) (y_fieldAddr (o' := 2) rfl Try.underlying120 rfl Try.sizeOf3 (by decide) rfl) rfl ?_
          refine s_y (v := .int .i64 (((tkAt p i).1).t2)) (y_load1 rfl Try.isAgg3 (own1 .h rfl)) rfl ?_
          refine s_y (v := .agg #[.int .i64 2, .int .i64 (((tkAt p i).1).t1), .int .i64 (((tkAt p i).1).t2)]) (y_buildL (m := [(0, .int .i64 2), (1, .int .i64 (((tkAt p i).1).t1)), (2, .int .i64 (((tkAt p i).1).t2))]) (vs := #[.int .i64 2, .int .i64 (((tkAt p i).1).t1), .int .i64 (((tkAt p i).1).t2)]) (evc rfl (evc rfl (evc rfl evn))) (fun w => by kernel_rfl)) rfl ?_
          refine s_y (v := .pointer (some ⟨b_2, 1, none⟩)) (y_fieldAddr (o' := 1) rfl Try.underlying120 rfl Try.sizeOf3 (by decide) rfl) rfl ?_
          refine s_y (v := .int .i64 (((tkAt p i).1).t1)) (y_load1 rfl Try.isAgg3 (own1 .h rfl)) rfl ?_
          refine s_y (v := .pointer (some ⟨b_2, 3, none⟩)) (y_fieldAddr (o' := 3) rfl Try.underlying120 rfl Try.sizeOf3 (by decide) rfl) rfl ?_
          refine s_y (v := .int .i64 (((tkAt p i).1).t3)) (y_load1 rfl Try.isAgg3 (own1 .h rfl)) rfl ?_
          refine s_y (v := .agg #[.int .i64 2, .int .i64 (((tkAt p i).1).t1), .int .i64 (((tkAt p i).1).t3)]) (y_buildL (m := [(0, .int .i64 2), (1, .int .i64 (((tkAt p i).1).t1)), (2, .int .i64 (((tkAt p i).1).t3))]) (vs := #[.int .i64 2, .int .i64 (((tkAt p i).1).t1), .int .i64 (((tkAt p i).1).t3)]) (evc rfl (evc rfl (evc rfl evn))) (fun w => by kernel_rfl)) rfl ?_
          refine s_e rfl ?_
          refine e_bsliceL (e := 144) (m := [(0, .agg #[.int .i64 2, .int .i64 (((tkAt p i).1).t1), .int .i64 (((tkAt p i).1).t2)]), (1, .agg #[.int .i64 2, .int .i64 (((tkAt p i).1).t1), .int .i64 (((tkAt p i).1).t3)])]) (l := [.int .i64 2, .int .i64 (((tkAt p i).1).t1), .int .i64 (((tkAt p i).1).t2), .int .i64 2, .int .i64 (((tkAt p i).1).t1), .int .i64 (((tkAt p i).1).t3)]) (evc rfl (evc rfl evn)) (fun w => by kernel_rfl) ?_
          intro b_15
          refine s_y (v := .slice (some ⟨b_15, 0, none⟩) 2 2) (y_assign rfl) rfl ?_
          refine wpL_nil ?_
          refine thenS_n ?_
          refine wpS_ret ?_
          refine blockS_r ?_
          refine thenS_r ?_
          refine fin1 (M := [cel b_15 144 [.int .i64 2, .int .i64 (((tkAt p i).1).t1), .int .i64 (((tkAt p i).1).t2), .int .i64 2, .int .i64 (((tkAt p i).1).t1), .int .i64 (((tkAt p i).1).t3)]]) (v := .slice (some ⟨b_15, 0, none⟩) 2 2) (.inr rfl) (.p .h .nil) Try.results126 rfl ?_
          exact fun w' hs => ⟨(some ⟨b_15, 0, none⟩, 2), by rw [show (writesP p i) = [(Spot.mk 2 (((tkAt p i).1).t1) (((tkAt p i).1).t2)), (Spot.mk 2 (((tkAt p i).1).t1) (((tkAt p i).1).t3))] from (by rw [writesP_yes (by assumption), wt_3 (by assumption)] <;> rfl)]; rfl, by rw [show (writesP p i) = [(Spot.mk 2 (((tkAt p i).1).t1) (((tkAt p i).1).t2)), (Spot.mk 2 (((tkAt p i).1).t1) (((tkAt p i).1).t3))] from (by rw [writesP_yes (by assumption), wt_3 (by assumption)] <;> rfl)]; exact SH.celO (n := 2) (sz := 3) .h rfl (by decide) w' hs, trivial⟩
        · -- decide ((((tkAt p i).1).t0 : Int) = 3) false
          have p14 := of_decide_eq_false b14
          refine wpS_seq ?_
          refine wpS_region ?_
          refine s_y (v := .bool (decide ((((tkAt p i).1).t0 : Int) = 4))) (y_eql (a := ((tkAt p i).1).t0) (b := 4) rfl rfl rfl) rfl ?_
          refine s_y (v := .bool (decide ((((tkAt p i).1).t0 : Int) = 4))) (y_assign rfl) rfl ?_
          refine wpL_nil ?_
          refine thenS_n ?_
          refine wpS_cond (t := decide ((((tkAt p i).1).t0 : Int) = 4)) rfl (fun b16 => ?_) (fun b16 => ?_)
          · -- decide ((((tkAt p i).1).t0 : Int) = 4) true
            have p16 := of_decide_eq_true b16
            refine wpS_seq ?_
            refine wpS_region ?_
            refine s_y (v := .pointer (some ⟨b_2, 2, none⟩)) (y_fieldAddr (o' := 2) rfl Try.underlying120 rfl Try.sizeOf3 (by decide) rfl) rfl ?_
            refine s_y (v := .int .i64 (((tkAt p i).1).t2)) (y_load1 rfl Try.isAgg3 (own1 .h rfl)) rfl ?_
            refine s_y (v := .agg #[.int .i64 3, .int .i64 0, .int .i64 (((tkAt p i).1).t2)]) (y_buildL (m := [(0, .int .i64 3), (2, .int .i64 (((tkAt p i).1).t2))]) (vs := #[.int .i64 3, .int .i64 0, .int .i64 (((tkAt p i).1).t2)]) (evc rfl (evc rfl evn)) (fun w => by kernel_rfl)) rfl ?_
            refine s_y (v := .pointer (some ⟨b_2, 2, none⟩)) (y_fieldAddr (o' := 2) rfl Try.underlying120 rfl Try.sizeOf3 (by decide) rfl) rfl ?_
            refine s_y (v := .int .i64 (((tkAt p i).1).t2)) (y_load1 rfl Try.isAgg3 (own1 .h rfl)) rfl ?_
            refine s_y (v := .agg #[.int .i64 4, .int .i64 0, .int .i64 (((tkAt p i).1).t2)]) (y_buildL (m := [(0, .int .i64 4), (2, .int .i64 (((tkAt p i).1).t2))]) (vs := #[.int .i64 4, .int .i64 0, .int .i64 (((tkAt p i).1).t2)]) (evc rfl (evc rfl evn)) (fun w => by kernel_rfl)) rfl ?_
            refine s_e rfl ?_
            refine e_bsliceL (e := 144) (m := [(0, .agg #[.int .i64 3, .int .i64 0, .int .i64 (((tkAt p i).1).t2)]), (1, .agg #[.int .i64 4, .int .i64 0, .int .i64 (((tkAt p i).1).t2)])]) (l := [.int .i64 3, .int .i64 0, .int .i64 (((tkAt p i).1).t2), .int .i64 4, .int .i64 0, .int .i64 (((tkAt p i).1).t2)]) (evc rfl (evc rfl evn)) (fun w => by kernel_rfl) ?_
            intro b_17
            refine s_y (v := .slice (some ⟨b_17, 0, none⟩) 2 2) (y_assign rfl) rfl ?_
            refine wpL_nil ?_
            refine thenS_n ?_
            refine wpS_ret ?_
            refine blockS_r ?_
            refine thenS_r ?_
            refine fin1 (M := [cel b_17 144 [.int .i64 3, .int .i64 0, .int .i64 (((tkAt p i).1).t2), .int .i64 4, .int .i64 0, .int .i64 (((tkAt p i).1).t2)]]) (v := .slice (some ⟨b_17, 0, none⟩) 2 2) (.inr rfl) (.p .h .nil) Try.results126 rfl ?_
            exact fun w' hs => ⟨(some ⟨b_17, 0, none⟩, 2), by rw [show (writesP p i) = [(Spot.mk 3 0 (((tkAt p i).1).t2)), (Spot.mk 4 0 (((tkAt p i).1).t2))] from (by rw [writesP_yes (by assumption), wt_4 (by assumption)] <;> rfl)]; rfl, by rw [show (writesP p i) = [(Spot.mk 3 0 (((tkAt p i).1).t2)), (Spot.mk 4 0 (((tkAt p i).1).t2))] from (by rw [writesP_yes (by assumption), wt_4 (by assumption)] <;> rfl)]; exact SH.celO (n := 2) (sz := 3) .h rfl (by decide) w' hs, trivial⟩
          · -- decide ((((tkAt p i).1).t0 : Int) = 4) false
            have p16 := of_decide_eq_false b16
            refine wpS_skip ?_
            refine blockS_n ?_
            refine thenS_n ?_
            refine wpS_seq ?_
            refine wpS_region ?_
            refine s_y (v := .pointer (some ⟨b_2, 1, none⟩)) (y_fieldAddr (o' := 1) rfl Try.underlying120 rfl Try.sizeOf3 (by decide) rfl) rfl ?_
            refine s_y (v := .int .i64 (((tkAt p i).1).t1)) (y_load1 rfl Try.isAgg3 (own1 .h rfl)) rfl ?_
            refine s_y (v := .pointer (some ⟨b_2, 2, none⟩)) (y_fieldAddr (o' := 2) rfl Try.underlying120 rfl Try.sizeOf3 (by decide) rfl) rfl ?_
            refine s_y (v := .int .i64 (((tkAt p i).1).t2)) (y_load1 rfl Try.isAgg3 (own1 .h rfl)) rfl ?_
            refine s_y (v := .agg #[.int .i64 5, .int .i64 (((tkAt p i).1).t1), .int .i64 (((tkAt p i).1).t2)]) (y_buildL (m := [(0, .int .i64 5), (1, .int .i64 (((tkAt p i).1).t1)), (2, .int .i64 (((tkAt p i).1).t2))]) (vs := #[.int .i64 5, .int .i64 (((tkAt p i).1).t1), .int .i64 (((tkAt p i).1).t2)]) (evc rfl (evc rfl (evc rfl evn))) (fun w => by kernel_rfl)) rfl ?_
            refine s_y (v := .pointer (some ⟨b_2, 1, none⟩)) (y_fieldAddr (o' := 1) rfl Try.underlying120 rfl Try.sizeOf3 (by decide) rfl) rfl ?_
            refine s_y (v := .int .i64 (((tkAt p i).1).t1)) (y_load1 rfl Try.isAgg3 (own1 .h rfl)) rfl ?_
            refine s_y (v := .pointer (some ⟨b_2, 3, none⟩)) (y_fieldAddr (o' := 3) rfl Try.underlying120 rfl Try.sizeOf3 (by decide) rfl) rfl ?_
            refine s_y (v := .int .i64 (((tkAt p i).1).t3)) (y_load1 rfl Try.isAgg3 (own1 .h rfl)) rfl ?_
            refine s_y (v := .agg #[.int .i64 5, .int .i64 (((tkAt p i).1).t1), .int .i64 (((tkAt p i).1).t3)]) (y_buildL (m := [(0, .int .i64 5), (1, .int .i64 (((tkAt p i).1).t1)), (2, .int .i64 (((tkAt p i).1).t3))]) (vs := #[.int .i64 5, .int .i64 (((tkAt p i).1).t1), .int .i64 (((tkAt p i).1).t3)]) (evc rfl (evc rfl (evc rfl evn))) (fun w => by kernel_rfl)) rfl ?_
            refine s_e rfl ?_
            refine e_bsliceL (e := 144) (m := [(0, .agg #[.int .i64 5, .int .i64 (((tkAt p i).1).t1), .int .i64 (((tkAt p i).1).t2)]), (1, .agg #[.int .i64 5, .int .i64 (((tkAt p i).1).t1), .int .i64 (((tkAt p i).1).t3)])]) (l := [.int .i64 5, .int .i64 (((tkAt p i).1).t1), .int .i64 (((tkAt p i).1).t2), .int .i64 5, .int .i64 (((tkAt p i).1).t1), .int .i64 (((tkAt p i).1).t3)]) (evc rfl (evc rfl evn)) (fun w => by kernel_rfl) ?_
            intro b_18
            refine s_y (v := .slice (some ⟨b_18, 0, none⟩) 2 2) (y_assign rfl) rfl ?_
            refine wpL_nil ?_
            refine thenS_n ?_
            refine wpS_ret ?_
            refine fin1 (M := [cel b_18 144 [.int .i64 5, .int .i64 (((tkAt p i).1).t1), .int .i64 (((tkAt p i).1).t2), .int .i64 5, .int .i64 (((tkAt p i).1).t1), .int .i64 (((tkAt p i).1).t3)]]) (v := .slice (some ⟨b_18, 0, none⟩) 2 2) (.inr rfl) (.p .h .nil) Try.results126 rfl ?_
            exact fun w' hs => ⟨(some ⟨b_18, 0, none⟩, 2), by rw [show (writesP p i) = [(Spot.mk 5 (((tkAt p i).1).t1) (((tkAt p i).1).t2)), (Spot.mk 5 (((tkAt p i).1).t1) (((tkAt p i).1).t3))] from (by rw [writesP_yes (by assumption), wt_n (by assumption) (by assumption) (by assumption) (by assumption)] <;> rfl)]; rfl, by rw [show (writesP p i) = [(Spot.mk 5 (((tkAt p i).1).t1) (((tkAt p i).1).t2)), (Spot.mk 5 (((tkAt p i).1).t1) (((tkAt p i).1).t3))] from (by rw [writesP_yes (by assumption), wt_n (by assumption) (by assumption) (by assumption) (by assumption)] <;> rfl)]; exact SH.celO (n := 2) (sz := 3) .h rfl (by decide) w' hs, trivial⟩

theorem rwr_c (p : Par) (t : Task) (hn1 : 1 ≤ p.n1) (hn4 : p.n1 ≤ 4) (ht0 : 0 ≤ t.t2) (ht1 : t.t2 ≤ 1000000000) (w : World) : MakesS Try.prog 204 #[.agg #[.int .i64 (p.n0), .int .i64 (p.n1), .int .i64 (p.n2), .int .i64 (p.n3)], .agg #[.int .i64 (t.t0), .int .i64 (t.t1), .int .i64 (t.t2), .int .i64 (t.t3), .bool (t.t4)]] w [] spotV 3 144 (writesT p.n1 t) := by
  refine calls_S (n := 68) (σ0 := (upd (upd fr0 0 (.agg #[.int .i64 (p.n0), .int .i64 (p.n1), .int .i64 (p.n2), .int .i64 (p.n3)])) 1 (.agg #[.int .i64 (t.t0), .int .i64 (t.t1), .int .i64 (t.t2), .int .i64 (t.t3), .bool (t.t4)]))) (D := []) (A := []) Try.func204 rfl Try.ntmps204 rfl (a2_fr _ _) (SH.start w) ?_
  refine wpS_seq ?_
  refine wpS_region ?_
  refine s_e rfl ?_
  refine e_box (v := .agg #[.int .i64 (p.n0), .int .i64 (p.n1), .int .i64 (p.n2), .int .i64 (p.n3)]) (l := [.int .i64 (p.n0), .int .i64 (p.n1), .int .i64 (p.n2), .int .i64 (p.n3)]) rfl rfl ?_
  intro b_1
  refine s_e rfl ?_
  refine e_box (v := .agg #[.int .i64 (t.t0), .int .i64 (t.t1), .int .i64 (t.t2), .int .i64 (t.t3), .bool (t.t4)]) (l := [.int .i64 (t.t0), .int .i64 (t.t1), .int .i64 (t.t2), .int .i64 (t.t3), .bool (t.t4)]) rfl rfl ?_
  intro b_2
  refine s_y (v := .slice none 0 0) (y_assign rfl) rfl ?_
  refine wpL_nil ?_
  refine thenS_n ?_
  refine wpS_seq ?_
  refine wpS_seq ?_
  refine wpS_region ?_
  refine s_y (v := .pointer (some ⟨b_2, 0, none⟩)) (y_fieldAddr (o' := 0) rfl Try.underlying120 rfl Try.sizeOf3 (by decide) rfl) rfl ?_
  refine s_y (v := .int .i64 (t.t0)) (y_load1 rfl Try.isAgg3 (own1 .h rfl)) rfl ?_
  refine wpL_nil ?_
  refine thenS_n ?_
  refine wpS_block ?_
  refine wpS_seq ?_
  refine wpS_region ?_
  refine s_y (v := .bool (decide ((t.t0 : Int) = 1))) (y_eql (a := t.t0) (b := 1) rfl rfl rfl) rfl ?_
  refine s_y (v := .bool (decide ((t.t0 : Int) = 1))) (y_assign rfl) rfl ?_
  refine wpL_nil ?_
  refine thenS_n ?_
  refine wpS_cond (t := decide ((t.t0 : Int) = 1)) rfl (fun b3 => ?_) (fun b3 => ?_)
  · -- decide ((t.t0 : Int) = 1) true
    have p3 := of_decide_eq_true b3
    refine wpS_seq ?_
    refine wpS_region ?_
    refine s_y (v := .slice none 0 0) (y_assign rfl) rfl ?_
    refine wpL_nil ?_
    refine thenS_n ?_
    refine wpS_seq ?_
    refine wpS_seq ?_
    refine wpS_region ?_
    refine s_y (v := .int .i64 0) (y_assign rfl) rfl ?_
    refine wpL_nil ?_
    refine thenS_n ?_
    refine wpS_block ?_
    refine wpS_nil0 3 144 ?_
    refine wpS_loop (fun mez ds σ L => ∃ j : Nat, ∃ a1 : Option Addr, ∃ c1 : Nat, mez = p.n1.toNat - j ∧ (j ≤ p.n1.toNat) ∧ ds = [] ∧ σ 2 = .pointer (some ⟨b_1, 0, none⟩) ∧ σ 3 = .pointer (some ⟨b_2, 0, none⟩) ∧ σ 5 = .slice a1 ((blkS p.n1 t.t2 j).length) c1 ∧ σ 6 = .int .i64 (((j : Nat) : Int)) ∧ Ent L [osl a1 c1 ((blkS p.n1 t.t2 j).length) 3 144 ((blkS p.n1 t.t2 j).flatMap spotV), cel b_2 120 [.int .i64 (t.t0), .int .i64 (t.t1), .int .i64 (t.t2), .int .i64 (t.t3), .bool (t.t4)], cel b_1 53 [.int .i64 (p.n0), .int .i64 (p.n1), .int .i64 (p.n2), .int .i64 (p.n3)]]) (m0 := p.n1.toNat - 0) ⟨0, none, 0, rfl, by omega, rfl, rfl, rfl, rfl, rfl, .p .h (.p .h (.p .h .nil))⟩ ?_
    rintro mez ds σ L ⟨j, a1, c1, hm_4, hf0_4, rfl, h2_4, h3_4, h5_4, h6_4, hE_4⟩
    refine wpS_ent hE_4 ?_; clear hE_4
    refine wpS_seq ?_
    refine wpS_seq ?_
    refine wpS_region ?_
    refine s_y (v := .int .i64 (((j : Nat) : Int))) (y_move h6_4) rfl ?_
    refine s_y (v := .pointer (some ⟨b_1, 1, none⟩)) (y_fieldAddr (o' := 1) h2_4 Try.underlying53 rfl Try.sizeOf3 (by decide) rfl) rfl ?_
    refine s_y (v := .int .i64 (p.n1)) (y_load1 rfl Try.isAgg3 (own1 (.t (.t .h)) rfl)) rfl ?_
    refine s_y (v := .bool (decide ((((j : Nat) : Int) : Int) < p.n1))) (y_lss (a := ((j : Nat) : Int)) (b := p.n1) rfl rfl rfl) rfl ?_
    refine wpL_nil ?_
    refine thenS_n ?_
    refine wpS_cond (t := decide ((((j : Nat) : Int) : Int) < p.n1)) rfl (fun b5 => ?_) (fun b5 => ?_)
    · -- decide ((((j : Nat) : Int) : Int) < p.n1) true
      have p5 := of_decide_eq_true b5
      refine wpS_skip ?_
      refine thenS_n ?_
      refine wpS_seq ?_
      refine wpS_block ?_
      refine wpS_region ?_
      refine s_y (v := .slice a1 ((blkS p.n1 t.t2 j).length) c1) (y_move h5_4) rfl ?_
      refine s_y (v := .pointer (some ⟨b_2, 2, none⟩)) (y_fieldAddr (o' := 2) h3_4 Try.underlying120 rfl Try.sizeOf3 (by decide) rfl) rfl ?_
      refine s_y (v := .int .i64 (t.t2)) (y_load1 rfl Try.isAgg3 (own1 (.t .h) rfl)) rfl ?_
      refine s_y (v := .pointer (some ⟨b_1, 1, none⟩)) (y_fieldAddr (o' := 1) h2_4 Try.underlying53 rfl Try.sizeOf3 (by decide) rfl) rfl ?_
      refine s_y (v := .int .i64 (p.n1)) (y_load1 rfl Try.isAgg3 (own1 (.t (.t .h)) rfl)) rfl ?_
      have hmb := mul4_bd (a := p.n1) (b := t.t2) (by omega) (by omega) (by omega) (by omega)
      refine s_y (v := .int .i64 (p.n1 * t.t2)) (y_mul (a := t.t2) (b := p.n1) (c := p.n1 * t.t2) rfl rfl (by rw [Int.mul_comm]; exact wI rfl (by omega) (by omega))) rfl ?_
      refine s_y (v := .int .i64 (((j : Nat) : Int))) (y_move h6_4) rfl ?_
      refine s_y (v := .int .i64 ((p.n1 * t.t2) + ((j : Nat) : Int))) (y_add (a := p.n1 * t.t2) (b := ((j : Nat) : Int)) (c := (p.n1 * t.t2) + ((j : Nat) : Int)) rfl rfl (wI rfl (by omega) (by omega))) rfl ?_
      refine s_y (v := .agg #[.int .i64 1, .int .i64 0, .int .i64 ((p.n1 * t.t2) + ((j : Nat) : Int))]) (y_buildL (m := [(0, .int .i64 1), (2, .int .i64 ((p.n1 * t.t2) + ((j : Nat) : Int)))]) (vs := #[.int .i64 1, .int .i64 0, .int .i64 ((p.n1 * t.t2) + ((j : Nat) : Int))]) (evc rfl (evc rfl evn)) (fun w => by kernel_rfl)) rfl ?_
      refine s_e rfl ?_
      refine e_bsliceL (e := 144) (m := [(0, .agg #[.int .i64 1, .int .i64 0, .int .i64 ((p.n1 * t.t2) + ((j : Nat) : Int))])]) (l := [.int .i64 1, .int .i64 0, .int .i64 ((p.n1 * t.t2) + ((j : Nat) : Int))]) (evc rfl evn) (fun w => by kernel_rfl) ?_
      intro b_6
      refine s_e rfl ?_
      refine e_appendL (enc := spotV) (xs := ((blkS p.n1 t.t2 j) : List Spot)) (ns := ([(Spot.mk 1 0 ((p.n1 * t.t2) + ((j : Nat) : Int)))] : List Spot)) (zs := (blkS p.n1 t.t2 (j + 1))) (bytes := 24) spotV_len spotV_one Try.underlying58 (i := Try.t144) rfl rfl rfl rfl rfl (by decide) rfl rfl (by first | rfl | omega) (by first | rfl | omega) (.t .h) (fun w hs => celR .h w hs) (blkS_next _ _ j) (by rw [blkS_len]; omega) (by rw [blkS_len]; omega) ?_
      intro a_7 c_8
      refine s_y (v := .slice a_7 ((blkS p.n1 t.t2 (j + 1)).length) c_8) (y_assign rfl) rfl ?_
      refine wpL_nil ?_
      refine blockS_n ?_
      refine thenS_n ?_
      refine wpS_region ?_
      refine s_y (v := .int .i64 (((j : Nat) : Int))) (y_move h6_4) rfl ?_
      refine s_y (v := .int .i64 ((((j + 1) : Nat) : Int))) (y_add (a := ((j : Nat) : Int)) (b := 1) (c := (((j + 1) : Nat) : Int)) rfl rfl (wI (by omega) (by omega) (by omega))) rfl ?_
      refine s_y (v := .int .i64 ((((j + 1) : Nat) : Int))) (y_assign rfl) rfl ?_
      refine wpL_nil ?_
      refine thenS_n ?_
      exact ⟨_, by omega, ⟨(j + 1), a_7, c_8, rfl, by omega, rfl, h2_4, h3_4, rfl, rfl, .p .h (.p (.t .h) (.p (.t .h) .nil))⟩⟩
    · -- decide ((((j : Nat) : Int) : Int) < p.n1) false
      have p5 := of_decide_eq_false b5
      refine wpS_exit ?_
      refine thenS_x ?_
      refine thenS_x ?_
      refine blockS_h ?_
      refine thenS_n ?_
      refine wpS_seq ?_
      refine wpS_region ?_
      refine s_y (v := .slice a1 ((blkS p.n1 t.t2 j).length) c1) (y_move h5_4) rfl ?_
      refine s_y (v := .slice a1 ((blkS p.n1 t.t2 j).length) c1) (y_assign rfl) rfl ?_
      refine wpL_nil ?_
      refine thenS_n ?_
      refine wpS_ret ?_
      refine blockS_r ?_
      refine thenS_r ?_
      refine fin1 (M := [osl a1 c1 ((blkS p.n1 t.t2 j).length) 3 144 ((blkS p.n1 t.t2 j).flatMap spotV)]) (v := .slice a1 ((blkS p.n1 t.t2 j).length) c1) (.inr rfl) (.p .h .nil) Try.results204 rfl ?_
      exact fun w' hs => ⟨(a1, c1), by rw [show (writesT p.n1 t) = (blkS p.n1 t.t2 j) from (by rw [wt_1 (by assumption), show j = p.n1.toNat by omega] <;> rfl)], by rw [show (writesT p.n1 t) = (blkS p.n1 t.t2 j) from (by rw [wt_1 (by assumption), show j = p.n1.toNat by omega] <;> rfl)]; exact hs, trivial⟩
  · -- decide ((t.t0 : Int) = 1) false
    have p3 := of_decide_eq_false b3
    refine wpS_seq ?_
    refine wpS_region ?_
    refine s_y (v := .bool (decide ((t.t0 : Int) = 2))) (y_eql (a := t.t0) (b := 2) rfl rfl rfl) rfl ?_
    refine s_y (v := .bool (decide ((t.t0 : Int) = 2))) (y_assign rfl) rfl ?_
    refine wpL_nil ?_
    refine thenS_n ?_
    refine wpS_cond (t := decide ((t.t0 : Int) = 2)) rfl (fun b9 => ?_) (fun b9 => ?_)
    · -- decide ((t.t0 : Int) = 2) true
      have p9 := of_decide_eq_true b9
      refine wpS_seq ?_
      refine wpS_region ?_
      refine s_y (v := .pointer (some ⟨b_2, 2, none⟩)) (y_fieldAddr (o' := 2) rfl Try.underlying120 rfl Try.sizeOf3 (by decide) rfl) rfl ?_
      refine s_y (v := .int .i64 (t.t2)) (y_load1 rfl Try.isAgg3 (own1 .h rfl)) rfl ?_
      refine s_y (v := .agg #[.int .i64 1, .int .i64 0, .int .i64 (t.t2)]) (y_buildL (m := [(0, .int .i64 1), (2, .int .i64 (t.t2))]) (vs := #[.int .i64 1, .int .i64 0, .int .i64 (t.t2)]) (evc rfl (evc rfl evn)) (fun w => by kernel_rfl)) rfl ?_
      refine s_e rfl ?_
      refine e_bsliceL (e := 144) (m := [(0, .agg #[.int .i64 1, .int .i64 0, .int .i64 (t.t2)])]) (l := [.int .i64 1, .int .i64 0, .int .i64 (t.t2)]) (evc rfl evn) (fun w => by kernel_rfl) ?_
      intro b_10
      refine s_y (v := .slice (some ⟨b_10, 0, none⟩) 1 1) (y_assign rfl) rfl ?_
      refine wpL_nil ?_
      refine thenS_n ?_
      refine wpS_ret ?_
      refine blockS_r ?_
      refine thenS_r ?_
      refine fin1 (M := [cel b_10 144 [.int .i64 1, .int .i64 0, .int .i64 (t.t2)]]) (v := .slice (some ⟨b_10, 0, none⟩) 1 1) (.inr rfl) (.p .h .nil) Try.results204 rfl ?_
      exact fun w' hs => ⟨(some ⟨b_10, 0, none⟩, 1), by rw [show (writesT p.n1 t) = [(Spot.mk 1 0 t.t2)] from (by rw [wt_2 (by assumption)] <;> rfl)]; rfl, by rw [show (writesT p.n1 t) = [(Spot.mk 1 0 t.t2)] from (by rw [wt_2 (by assumption)] <;> rfl)]; exact SH.celO (n := 1) (sz := 3) .h rfl (by decide) w' hs, trivial⟩
    · -- decide ((t.t0 : Int) = 2) false
      have p9 := of_decide_eq_false b9
      refine wpS_seq ?_
      refine wpS_region ?_
      refine s_y (v := .bool (decide ((t.t0 : Int) = 3))) (y_eql (a := t.t0) (b := 3) rfl rfl rfl) rfl ?_
      refine s_y (v := .bool (decide ((t.t0 : Int) = 3))) (y_assign rfl) rfl ?_
      refine wpL_nil ?_
      refine thenS_n ?_
      refine wpS_cond (t := decide ((t.t0 : Int) = 3)) rfl (fun b11 => ?_) (fun b11 => ?_)
      · -- decide ((t.t0 : Int) = 3) true
        have p11 := of_decide_eq_true b11
        refine wpS_seq ?_
        refine wpS_region ?_
        refine s_y (v := .pointer (some ⟨b_2, 1, none⟩)) (y_fieldAddr (o' := 1) rfl Try.underlying120 rfl Try.sizeOf3 (by decide) rfl) rfl ?_
        refine s_y (v := .int .i64 (t.t1)) (y_load1 rfl Try.isAgg3 (own1 .h rfl)) rfl ?_
        refine s_y (v := .pointer (some ⟨b_2, 2, none⟩)) (y_fieldAddr (o' := 2) rfl Try.underlying120 rfl Try.sizeOf3 (by decide) rfl) rfl ?_
        refine s_y (v := .int .i64 (t.t2)) (y_load1 rfl Try.isAgg3 (own1 .h rfl)) rfl ?_
        refine s_y (v := .agg #[.int .i64 2, .int .i64 (t.t1), .int .i64 (t.t2)]) (y_buildL (m := [(0, .int .i64 2), (1, .int .i64 (t.t1)), (2, .int .i64 (t.t2))]) (vs := #[.int .i64 2, .int .i64 (t.t1), .int .i64 (t.t2)]) (evc rfl (evc rfl (evc rfl evn))) (fun w => by kernel_rfl)) rfl ?_
        refine s_y (v := .pointer (some ⟨b_2, 1, none⟩)) (y_fieldAddr (o' := 1) rfl Try.underlying120 rfl Try.sizeOf3 (by decide) rfl) rfl ?_
        refine s_y (v := .int .i64 (t.t1)) (y_load1 rfl Try.isAgg3 (own1 .h rfl)) rfl ?_
        refine s_y (v := .pointer (some ⟨b_2, 3, none⟩)) (y_fieldAddr (o' := 3) rfl Try.underlying120 rfl Try.sizeOf3 (by decide) rfl) rfl ?_
        refine s_y (v := .int .i64 (t.t3)) (y_load1 rfl Try.isAgg3 (own1 .h rfl)) rfl ?_
        refine s_y (v := .agg #[.int .i64 2, .int .i64 (t.t1), .int .i64 (t.t3)]) (y_buildL (m := [(0, .int .i64 2), (1, .int .i64 (t.t1)), (2, .int .i64 (t.t3))]) (vs := #[.int .i64 2, .int .i64 (t.t1), .int .i64 (t.t3)]) (evc rfl (evc rfl (evc rfl evn))) (fun w => by kernel_rfl)) rfl ?_
        refine s_e rfl ?_
        refine e_bsliceL (e := 144) (m := [(0, .agg #[.int .i64 2, .int .i64 (t.t1), .int .i64 (t.t2)]), (1, .agg #[.int .i64 2, .int .i64 (t.t1), .int .i64 (t.t3)])]) (l := [.int .i64 2, .int .i64 (t.t1), .int .i64 (t.t2), .int .i64 2, .int .i64 (t.t1), .int .i64 (t.t3)]) (evc rfl (evc rfl evn)) (fun w => by kernel_rfl) ?_
        intro b_12
        refine s_y (v := .slice (some ⟨b_12, 0, none⟩) 2 2) (y_assign rfl) rfl ?_
        refine wpL_nil ?_
        refine thenS_n ?_
        refine wpS_ret ?_
        refine blockS_r ?_
        refine thenS_r ?_
        refine fin1 (M := [cel b_12 144 [.int .i64 2, .int .i64 (t.t1), .int .i64 (t.t2), .int .i64 2, .int .i64 (t.t1), .int .i64 (t.t3)]]) (v := .slice (some ⟨b_12, 0, none⟩) 2 2) (.inr rfl) (.p .h .nil) Try.results204 rfl ?_
        exact fun w' hs => ⟨(some ⟨b_12, 0, none⟩, 2), by rw [show (writesT p.n1 t) = [(Spot.mk 2 t.t1 t.t2), (Spot.mk 2 t.t1 t.t3)] from (by rw [wt_3 (by assumption)] <;> rfl)]; rfl, by rw [show (writesT p.n1 t) = [(Spot.mk 2 t.t1 t.t2), (Spot.mk 2 t.t1 t.t3)] from (by rw [wt_3 (by assumption)] <;> rfl)]; exact SH.celO (n := 2) (sz := 3) .h rfl (by decide) w' hs, trivial⟩
      · -- decide ((t.t0 : Int) = 3) false
        have p11 := of_decide_eq_false b11
        refine wpS_seq ?_
        refine wpS_region ?_
        refine s_y (v := .bool (decide ((t.t0 : Int) = 4))) (y_eql (a := t.t0) (b := 4) rfl rfl rfl) rfl ?_
        refine s_y (v := .bool (decide ((t.t0 : Int) = 4))) (y_assign rfl) rfl ?_
        refine wpL_nil ?_
        refine thenS_n ?_
        refine wpS_cond (t := decide ((t.t0 : Int) = 4)) rfl (fun b13 => ?_) (fun b13 => ?_)
        · -- decide ((t.t0 : Int) = 4) true
          have p13 := of_decide_eq_true b13
          refine wpS_seq ?_
          refine wpS_region ?_
          refine s_y (v := .pointer (some ⟨b_2, 2, none⟩)) (y_fieldAddr (o' := 2) rfl Try.underlying120 rfl Try.sizeOf3 (by decide) rfl) rfl ?_
          refine s_y (v := .int .i64 (t.t2)) (y_load1 rfl Try.isAgg3 (own1 .h rfl)) rfl ?_
          refine s_y (v := .agg #[.int .i64 3, .int .i64 0, .int .i64 (t.t2)]) (y_buildL (m := [(0, .int .i64 3), (2, .int .i64 (t.t2))]) (vs := #[.int .i64 3, .int .i64 0, .int .i64 (t.t2)]) (evc rfl (evc rfl evn)) (fun w => by kernel_rfl)) rfl ?_
          refine s_y (v := .pointer (some ⟨b_2, 2, none⟩)) (y_fieldAddr (o' := 2) rfl Try.underlying120 rfl Try.sizeOf3 (by decide) rfl) rfl ?_
          refine s_y (v := .int .i64 (t.t2)) (y_load1 rfl Try.isAgg3 (own1 .h rfl)) rfl ?_
          refine s_y (v := .agg #[.int .i64 4, .int .i64 0, .int .i64 (t.t2)]) (y_buildL (m := [(0, .int .i64 4), (2, .int .i64 (t.t2))]) (vs := #[.int .i64 4, .int .i64 0, .int .i64 (t.t2)]) (evc rfl (evc rfl evn)) (fun w => by kernel_rfl)) rfl ?_
          refine s_e rfl ?_
          refine e_bsliceL (e := 144) (m := [(0, .agg #[.int .i64 3, .int .i64 0, .int .i64 (t.t2)]), (1, .agg #[.int .i64 4, .int .i64 0, .int .i64 (t.t2)])]) (l := [.int .i64 3, .int .i64 0, .int .i64 (t.t2), .int .i64 4, .int .i64 0, .int .i64 (t.t2)]) (evc rfl (evc rfl evn)) (fun w => by kernel_rfl) ?_
          intro b_14
          refine s_y (v := .slice (some ⟨b_14, 0, none⟩) 2 2) (y_assign rfl) rfl ?_
          refine wpL_nil ?_
          refine thenS_n ?_
          refine wpS_ret ?_
          refine blockS_r ?_
          refine thenS_r ?_
          refine fin1 (M := [cel b_14 144 [.int .i64 3, .int .i64 0, .int .i64 (t.t2), .int .i64 4, .int .i64 0, .int .i64 (t.t2)]]) (v := .slice (some ⟨b_14, 0, none⟩) 2 2) (.inr rfl) (.p .h .nil) Try.results204 rfl ?_
          exact fun w' hs => ⟨(some ⟨b_14, 0, none⟩, 2), by rw [show (writesT p.n1 t) = [(Spot.mk 3 0 t.t2), (Spot.mk 4 0 t.t2)] from (by rw [wt_4 (by assumption)] <;> rfl)]; rfl, by rw [show (writesT p.n1 t) = [(Spot.mk 3 0 t.t2), (Spot.mk 4 0 t.t2)] from (by rw [wt_4 (by assumption)] <;> rfl)]; exact SH.celO (n := 2) (sz := 3) .h rfl (by decide) w' hs, trivial⟩
        · -- decide ((t.t0 : Int) = 4) false
          have p13 := of_decide_eq_false b13
          refine wpS_skip ?_
          refine blockS_n ?_
          refine thenS_n ?_
          refine wpS_seq ?_
          refine wpS_region ?_
          refine s_y (v := .pointer (some ⟨b_2, 1, none⟩)) (y_fieldAddr (o' := 1) rfl Try.underlying120 rfl Try.sizeOf3 (by decide) rfl) rfl ?_
          refine s_y (v := .int .i64 (t.t1)) (y_load1 rfl Try.isAgg3 (own1 .h rfl)) rfl ?_
          refine s_y (v := .pointer (some ⟨b_2, 2, none⟩)) (y_fieldAddr (o' := 2) rfl Try.underlying120 rfl Try.sizeOf3 (by decide) rfl) rfl ?_
          refine s_y (v := .int .i64 (t.t2)) (y_load1 rfl Try.isAgg3 (own1 .h rfl)) rfl ?_
          refine s_y (v := .agg #[.int .i64 5, .int .i64 (t.t1), .int .i64 (t.t2)]) (y_buildL (m := [(0, .int .i64 5), (1, .int .i64 (t.t1)), (2, .int .i64 (t.t2))]) (vs := #[.int .i64 5, .int .i64 (t.t1), .int .i64 (t.t2)]) (evc rfl (evc rfl (evc rfl evn))) (fun w => by kernel_rfl)) rfl ?_
          refine s_y (v := .pointer (some ⟨b_2, 1, none⟩)) (y_fieldAddr (o' := 1) rfl Try.underlying120 rfl Try.sizeOf3 (by decide) rfl) rfl ?_
          refine s_y (v := .int .i64 (t.t1)) (y_load1 rfl Try.isAgg3 (own1 .h rfl)) rfl ?_
          refine s_y (v := .pointer (some ⟨b_2, 3, none⟩)) (y_fieldAddr (o' := 3) rfl Try.underlying120 rfl Try.sizeOf3 (by decide) rfl) rfl ?_
          refine s_y (v := .int .i64 (t.t3)) (y_load1 rfl Try.isAgg3 (own1 .h rfl)) rfl ?_
          refine s_y (v := .agg #[.int .i64 5, .int .i64 (t.t1), .int .i64 (t.t3)]) (y_buildL (m := [(0, .int .i64 5), (1, .int .i64 (t.t1)), (2, .int .i64 (t.t3))]) (vs := #[.int .i64 5, .int .i64 (t.t1), .int .i64 (t.t3)]) (evc rfl (evc rfl (evc rfl evn))) (fun w => by kernel_rfl)) rfl ?_
          refine s_e rfl ?_
          refine e_bsliceL (e := 144) (m := [(0, .agg #[.int .i64 5, .int .i64 (t.t1), .int .i64 (t.t2)]), (1, .agg #[.int .i64 5, .int .i64 (t.t1), .int .i64 (t.t3)])]) (l := [.int .i64 5, .int .i64 (t.t1), .int .i64 (t.t2), .int .i64 5, .int .i64 (t.t1), .int .i64 (t.t3)]) (evc rfl (evc rfl evn)) (fun w => by kernel_rfl) ?_
          intro b_15
          refine s_y (v := .slice (some ⟨b_15, 0, none⟩) 2 2) (y_assign rfl) rfl ?_
          refine wpL_nil ?_
          refine thenS_n ?_
          refine wpS_ret ?_
          refine fin1 (M := [cel b_15 144 [.int .i64 5, .int .i64 (t.t1), .int .i64 (t.t2), .int .i64 5, .int .i64 (t.t1), .int .i64 (t.t3)]]) (v := .slice (some ⟨b_15, 0, none⟩) 2 2) (.inr rfl) (.p .h .nil) Try.results204 rfl ?_
          exact fun w' hs => ⟨(some ⟨b_15, 0, none⟩, 2), by rw [show (writesT p.n1 t) = [(Spot.mk 5 t.t1 t.t2), (Spot.mk 5 t.t1 t.t3)] from (by rw [wt_n (by assumption) (by assumption) (by assumption) (by assumption)] <;> rfl)]; rfl, by rw [show (writesT p.n1 t) = [(Spot.mk 5 t.t1 t.t2), (Spot.mk 5 t.t1 t.t3)] from (by rw [wt_n (by assumption) (by assumption) (by assumption) (by assumption)] <;> rfl)]; exact SH.celO (n := 2) (sz := 3) .h rfl (by decide) w' hs, trivial⟩

end Go.Proofs.Ytldkjjnjdjfipaa
