/- RecordPacks and RecordBack, walked. -/
import Derived.Test.YtldkjjnjdjfipaaWPk3
namespace Go.Proofs.Ytldkjjnjdjfipaa
open Go Go.RowKit
set_option linter.unusedVariables false
set_option linter.unusedSimpArgs false
set_option maxRecDepth 10000
set_option maxHeartbeats 1000000

theorem packs_law (r : Rec) (a : Option Addr) (n c : Nat) (l : List UInt8) (w : World) (hn : l.length = n) (hc : n ≤ c) (hr : Rds w a (l.flatMap byteV)) : Pure Try.prog 12 #[.agg (recV r).toArray, .slice a n c] w (.bool true) := by
  refine calls_S (n := 49) (σ0 := (upd (upd fr0 0 (.agg #[.bool (r.dead), .int .i64 (r.key.toInt), .int .i64 (r.value.toInt), .int .i64 (r.seq.toInt)])) 1 (.slice a n c))) (D := []) (A := []) Try.func12 rfl Try.ntmps12 rfl (a2_fr _ _) (SH.start w) ?_
  refine wpS_seq ?_
  refine wpS_region ?_
  refine s_e rfl ?_
  refine e_box (v := .agg #[.bool (r.dead), .int .i64 (r.key.toInt), .int .i64 (r.value.toInt), .int .i64 (r.seq.toInt)]) (l := [.bool (r.dead), .int .i64 (r.key.toInt), .int .i64 (r.value.toInt), .int .i64 (r.seq.toInt)]) rfl rfl ?_
  intro b_1
  refine s_y (v := .bool false) (y_assign rfl) rfl ?_
  refine wpL_nil ?_
  refine thenS_n ?_
  refine wpS_seq ?_
  refine wpS_seq ?_
  refine wpS_region ?_
  refine s_y (v := .slice a n c) (y_move rfl) rfl ?_
  refine s_y (v := .int .i64 (((n : Nat) : Int))) (y_len (ty' := 0) (at_ := #[]) rfl Try.underlying61) rfl ?_
  refine s_y (v := .bool (decide ((300 : Nat) < n))) (y_gtr (a := ((n : Nat) : Int)) (b := 300) (c := decide ((300 : Nat) < n)) rfl rfl (decide_eq_decide.2 (by omega))) rfl ?_
  refine wpL_nil ?_
  refine thenS_n ?_
  refine wpS_cond (t := decide ((300 : Nat) < n)) rfl (fun b2 => ?_) (fun b2 => ?_)
  · -- decide ((300 : Nat) < n) true
    have p2 := of_decide_eq_true b2
    refine wpS_seq ?_
    refine wpS_region ?_
    refine s_y (v := .bool true) (y_call (args := #[]) (v := .bool true) Try.call44 ev0 (fun w hs => awake09_c w)) rfl ?_
    refine s_y (v := .bool true) (y_assign rfl) rfl ?_
    refine wpL_nil ?_
    refine thenS_n ?_
    refine wpS_ret ?_
    refine thenS_r ?_
    refine fin1 (M := []) (v := .bool true) (.inr rfl) (.nil) Try.results12 rfl ?_
    exact fun w' hs => ⟨rfl, hs⟩
  · -- decide ((300 : Nat) < n) false
    have p2 := of_decide_eq_false b2
    refine wpS_skip ?_
    refine thenS_n ?_
    refine wpS_seq ?_
    refine wpS_region ?_
    refine s_y (v := .slice a n c) (y_move rfl) rfl ?_
    refine s_e rfl ?_
    refine e_call (f := 67) (args := #[.slice a n c, .int .u8 71]) (X := Nat) (A := []) (M := [cel b_1 23 [.bool (r.dead), .int .i64 (r.key.toInt), .int .i64 (r.value.toInt), .int .i64 (r.seq.toInt)]]) (V := fun b => .slice (some ⟨b, 0, none⟩) n (n + 3)) (A' := fun b => [osl (some ⟨b, 0, none⟩) (n + 3) (n + 3) 1 5 ((ownL l 71).flatMap byteV)]) (C := fun _ => True) Try.call67 (ev2 rfl rfl) (.p .h .nil) (fun w hs => ownB_c a n c l 71 w hn ((oldR hr) w hs) (by omega)) ?_
    rintro b_3 -
    refine s_y (v := .slice (some ⟨b_3, 0, none⟩) n (n + 3)) (y_assign rfl) rfl ?_
    refine wpL_nil ?_
    refine thenS_n ?_
    refine wpS_seq ?_
    refine wpS_region ?_
    refine s_y (v := .slice (some ⟨b_3, 0, none⟩) n (n + 3)) (y_move rfl) rfl ?_
    refine s_y (v := .tuple #[.agg #[.bool (((takeR l).1).dead), .int .i64 ((((takeR l).1).key).toInt), .int .i64 ((((takeR l).1).value).toInt), .int .i64 ((((takeR l).1).seq).toInt)], .int .i64 ((takeR l).2)]) (y_call (args := #[.slice (some ⟨b_3, 0, none⟩) n (n + 3)]) (v := .tuple #[.agg #[.bool (((takeR l).1).dead), .int .i64 ((((takeR l).1).key).toInt), .int .i64 ((((takeR l).1).value).toInt), .int .i64 ((((takeR l).1).seq).toInt)], .int .i64 ((takeR l).2)]) Try.call68 (ev1 rfl) (fun w hs => take_c (some ⟨b_3, 0, none⟩) n (n + 3) l w (by omega) ((rdsT' byteV_len (ownL_take' (by omega)) (oslR .h)) w hs) (by omega) (by omega))) rfl ?_
    refine s_y (v := .tuple #[.agg #[.bool (((takeR l).1).dead), .int .i64 ((((takeR l).1).key).toInt), .int .i64 ((((takeR l).1).value).toInt), .int .i64 ((((takeR l).1).seq).toInt)], .int .i64 ((takeR l).2)]) (y_move rfl) rfl ?_
    refine s_y (v := .agg #[.bool (((takeR l).1).dead), .int .i64 ((((takeR l).1).key).toInt), .int .i64 ((((takeR l).1).value).toInt), .int .i64 ((((takeR l).1).seq).toInt)]) (y_extract (v := .agg #[.bool (((takeR l).1).dead), .int .i64 ((((takeR l).1).key).toInt), .int .i64 ((((takeR l).1).value).toInt), .int .i64 ((((takeR l).1).seq).toInt)]) rfl rfl) rfl ?_
    refine s_y (v := .int .i64 ((takeR l).2)) (y_extract (v := .int .i64 ((takeR l).2)) rfl rfl) rfl ?_
    refine s_e rfl ?_
    refine e_alloc (l := [.bool false, .int .i64 0, .int .i64 0, .int .i64 0]) Try.zeroValue23 rfl ?_
    intro b_5
    refine s_e0 ?_
    refine e_store (vs := [.bool (((takeR l).1).dead), .int .i64 ((((takeR l).1).key).toInt), .int .i64 ((((takeR l).1).value).toInt), .int .i64 ((((takeR l).1).seq).toInt)]) (l' := [.bool (((takeR l).1).dead), .int .i64 ((((takeR l).1).key).toInt), .int .i64 ((((takeR l).1).value).toInt), .int .i64 ((((takeR l).1).seq).toInt)]) rfl rfl rfl rfl Try.sizeOf23 .h (Nat.le_of_ble_eq_true rfl) rfl ?_
    refine s_y (v := .int .i64 ((takeR l).2)) (y_assign rfl) rfl ?_
    refine wpL_nil ?_
    refine thenS_n ?_
    refine wpS_seq ?_
    refine wpS_region ?_
    refine s_y (v := .slice a n c) (y_move rfl) rfl ?_
    refine s_y (v := .tuple #[.agg #[.bool (((takeR l).1).dead), .int .i64 ((((takeR l).1).key).toInt), .int .i64 ((((takeR l).1).value).toInt), .int .i64 ((((takeR l).1).seq).toInt)], .int .i64 ((takeR l).2)]) (y_call (args := #[.slice a n c]) (v := .tuple #[.agg #[.bool (((takeR l).1).dead), .int .i64 ((((takeR l).1).key).toInt), .int .i64 ((((takeR l).1).value).toInt), .int .i64 ((((takeR l).1).seq).toInt)], .int .i64 ((takeR l).2)]) Try.call69 (ev1 rfl) (fun w hs => rtake_c a n c l w hn ((oldR hr) w hs) (by omega) (by omega))) rfl ?_
    refine s_y (v := .tuple #[.agg #[.bool (((takeR l).1).dead), .int .i64 ((((takeR l).1).key).toInt), .int .i64 ((((takeR l).1).value).toInt), .int .i64 ((((takeR l).1).seq).toInt)], .int .i64 ((takeR l).2)]) (y_move rfl) rfl ?_
    refine s_y (v := .agg #[.bool (((takeR l).1).dead), .int .i64 ((((takeR l).1).key).toInt), .int .i64 ((((takeR l).1).value).toInt), .int .i64 ((((takeR l).1).seq).toInt)]) (y_extract (v := .agg #[.bool (((takeR l).1).dead), .int .i64 ((((takeR l).1).key).toInt), .int .i64 ((((takeR l).1).value).toInt), .int .i64 ((((takeR l).1).seq).toInt)]) rfl rfl) rfl ?_
    refine s_y (v := .int .i64 ((takeR l).2)) (y_extract (v := .int .i64 ((takeR l).2)) rfl rfl) rfl ?_
    refine s_e rfl ?_
    refine e_alloc (l := [.bool false, .int .i64 0, .int .i64 0, .int .i64 0]) Try.zeroValue23 rfl ?_
    intro b_6
    refine s_e0 ?_
    refine e_store (vs := [.bool (((takeR l).1).dead), .int .i64 ((((takeR l).1).key).toInt), .int .i64 ((((takeR l).1).value).toInt), .int .i64 ((((takeR l).1).seq).toInt)]) (l' := [.bool (((takeR l).1).dead), .int .i64 ((((takeR l).1).key).toInt), .int .i64 ((((takeR l).1).value).toInt), .int .i64 ((((takeR l).1).seq).toInt)]) rfl rfl rfl rfl Try.sizeOf23 .h (Nat.le_of_ble_eq_true rfl) rfl ?_
    refine s_y (v := .int .i64 ((takeR l).2)) (y_assign rfl) rfl ?_
    refine wpL_nil ?_
    refine thenS_n ?_
    refine wpS_seq ?_
    refine wpS_lex (by kernel_rfl) (by kernel_rfl) ?_
    refine x_y (v := .bool true) (y_call (args := #[]) (v := .bool true) Try.call44 ev0 (fun w hs => awake09_c w)) rfl ?_
    refine x_y (v := .bool true) (y_move rfl) rfl ?_
    refine x_gy (y_loadN (vs := [.bool (r.dead), .int .i64 (r.key.toInt), .int .i64 (r.value.toInt), .int .i64 (r.seq.toInt)]) rfl Try.isAgg23 Try.sizeOf23 (ownN (.t (.t (.t .h))) rfl)) rfl rfl rfl rfl rfl rfl ?_
    refine x_gy (y_call (args := #[.agg #[.bool (r.dead), .int .i64 (r.key.toInt), .int .i64 (r.value.toInt), .int .i64 (r.seq.toInt)]]) (v := .agg (((packB r).flatMap byteV)).toArray) Try.call48 (ev1 rfl) (fun w hs => pack_c r w)) rfl rfl rfl rfl rfl rfl ?_
    refine x_gy (y_loadN (vs := [.bool (r.dead), .int .i64 (r.key.toInt), .int .i64 (r.value.toInt), .int .i64 (r.seq.toInt)]) rfl Try.isAgg23 Try.sizeOf23 (ownN (.t (.t (.t .h))) rfl)) rfl rfl rfl rfl rfl rfl ?_
    refine x_gy (y_call (args := #[.agg #[.bool (r.dead), .int .i64 (r.key.toInt), .int .i64 (r.value.toInt), .int .i64 (r.seq.toInt)]]) (v := .agg (((packB r).flatMap byteV)).toArray) Try.call70 (ev1 rfl) (fun w hs => rpack_c r w)) rfl rfl rfl rfl rfl rfl ?_
    refine x_gy (y_eqlS (a := (((packB r).flatMap byteV)).toArray) (b := (((packB r).flatMap byteV)).toArray) (c := decide ((packB r) = (packB r))) Try.eqGuardType30 (fun w => equalB32 w (packB r) (packB r) (packB_len _) (packB_len _)) rfl rfl) rfl rfl rfl rfl rfl rfl ?_
    refine x_y (v := .bool (decide ((packB r) = (packB r)))) (y_pickT (v := .bool (decide ((packB r) = (packB r)))) rfl rfl rfl) rfl ?_
    refine x_y (v := .bool (decide ((packB r) = (packB r)))) (y_move rfl) rfl ?_
    refine x_gy (y_loadN (vs := [.bool (((takeR l).1).dead), .int .i64 ((((takeR l).1).key).toInt), .int .i64 ((((takeR l).1).value).toInt), .int .i64 ((((takeR l).1).seq).toInt)]) rfl Try.isAgg23 Try.sizeOf23 (ownN (.t .h) rfl)) rfl rfl rfl rfl (b' := decide ((packB r) = (packB r))) rfl (decide_eq_true rfl) ?_
    refine x_gy (y_loadN (vs := [.bool (((takeR l).1).dead), .int .i64 ((((takeR l).1).key).toInt), .int .i64 ((((takeR l).1).value).toInt), .int .i64 ((((takeR l).1).seq).toInt)]) rfl Try.isAgg23 Try.sizeOf23 (ownN .h rfl)) rfl rfl rfl rfl (b' := decide ((packB r) = (packB r))) rfl (decide_eq_true rfl) ?_
    refine x_gy (y_eqlS (a := #[.bool (((takeR l).1).dead), .int .i64 ((((takeR l).1).key).toInt), .int .i64 ((((takeR l).1).value).toInt), .int .i64 ((((takeR l).1).seq).toInt)]) (b := #[.bool (((takeR l).1).dead), .int .i64 ((((takeR l).1).key).toInt), .int .i64 ((((takeR l).1).value).toInt), .int .i64 ((((takeR l).1).seq).toInt)]) (c := decide (((takeR l).1) = ((takeR l).1))) Try.eqGuardType23 (fun w => equalR w ((takeR l).1) ((takeR l).1)) rfl rfl) rfl rfl rfl rfl (b' := decide ((packB r) = (packB r))) rfl (decide_eq_true rfl) ?_
    refine x_y (v := .bool (decide (((takeR l).1) = ((takeR l).1)))) (y_pickT (b := decide ((packB r) = (packB r))) (v := .bool (decide (((takeR l).1) = ((takeR l).1)))) rfl (decide_eq_true rfl) rfl) rfl ?_
    refine x_y (v := .bool (decide (((takeR l).1) = ((takeR l).1)))) (y_move rfl) rfl ?_
    refine x_gy (y_move rfl) rfl rfl rfl rfl (b' := decide (((takeR l).1) = ((takeR l).1))) rfl (decide_eq_true rfl) ?_
    refine x_gy (y_move rfl) rfl rfl rfl rfl (b' := decide (((takeR l).1) = ((takeR l).1))) rfl (decide_eq_true rfl) ?_
    refine x_gy (y_eql (a := (takeR l).2) (b := (takeR l).2) rfl rfl rfl) rfl rfl rfl rfl (b' := decide (((takeR l).1) = ((takeR l).1))) rfl (decide_eq_true rfl) ?_
    refine x_y (v := .bool (decide (((takeR l).2 : Int) = ((takeR l).2)))) (y_pickT (b := decide (((takeR l).1) = ((takeR l).1))) (v := .bool (decide (((takeR l).2 : Int) = ((takeR l).2)))) rfl (decide_eq_true rfl) rfl) rfl ?_
    refine x_y (v := .bool (decide (((takeR l).2 : Int) = ((takeR l).2)))) (y_move rfl) rfl ?_
    refine x_gy (y_move rfl) rfl rfl rfl rfl (b' := decide (((takeR l).2 : Int) = ((takeR l).2))) rfl (decide_eq_true rfl) ?_
    refine x_gy (y_move rfl) rfl rfl rfl rfl (b' := decide (((takeR l).2 : Int) = ((takeR l).2))) rfl (decide_eq_true rfl) ?_
    refine x_gy (y_call (args := #[.slice (some ⟨b_3, 0, none⟩) n (n + 3), .slice a n c, .int .u8 71]) (v := .bool true) Try.call71 (ev3 rfl rfl rfl) (fun w hs => keptB_c b_3 a n c l 71 w hn ((oldR hr) w hs) (by omega) (oslR (.t (.t .h)) w hs))) rfl rfl rfl rfl (b' := decide (((takeR l).2 : Int) = ((takeR l).2))) rfl (decide_eq_true rfl) ?_
    refine x_y (v := .bool true) (y_pickT (b := decide (((takeR l).2 : Int) = ((takeR l).2))) (v := .bool true) rfl (decide_eq_true rfl) rfl) rfl ?_
    refine x_y (v := .bool true) (y_assign rfl) rfl ?_
    refine x_nil ?_
    refine thenS_n ?_
    refine wpS_ret ?_
    refine fin1 (M := []) (v := .bool true) (.inr rfl) (.nil) Try.results12 rfl ?_
    exact fun w' hs => ⟨rfl, hs⟩

theorem leAll_drop : ∀ (ws : List UInt64) (k : Nat), (leAll ws).drop (8 * k) = leAll (ws.drop k)
  | ws, 0 => rfl
  | [], k + 1 => by simp [leAll]
  | v :: ws, k + 1 => by
    rw [List.drop_succ_cons, ← leAll_drop ws k]
    show (le8 v ++ leAll ws).drop (8 * (k + 1)) = _
    rw [show 8 * (k + 1) = (le8 v).length + 8 * k by rw [le8_len]; omega, List.drop_length_add_append]
theorem leAll_take (v : UInt64) (ws : List UInt64) : (leAll (v :: ws)).take 8 = le8 v := by
  show (le8 v ++ leAll ws).take 8 = _
  rw [List.take_append_of_le_length (by rw [le8_len]; omega), List.take_of_length_le (by rw [le8_len]; omega)]
theorem word_leAll {ws : List UInt64} {k : Nat} (h : k < ws.length) : wordAt (leAll ws) k = ws.getD k 0 := by
  unfold wordAt
  rw [leAll_drop, List.drop_eq_getElem_cons h, leAll_take, valN_le8, List.getD_eq_getElem?_getD, List.getElem?_eq_getElem h, Option.getD_some]
  simp
theorem pk_words (r : Rec) (k : Nat) (h : k < 4) : wordAt (packB r) k = (words r).getD k 0 := word_leAll (by rw [words_len]; exact h)
theorem take_pack (r : Rec) : takeR (packB r) = (if r.dead then deadR else r, 0) := by
  have h0 := pk_words r 0 (by decide)
  have h1 := pk_words r 1 (by decide)
  have h2 := pk_words r 2 (by decide)
  have h3 := pk_words r 3 (by decide)
  cases hd : r.dead with
  | true =>
    unfold words at h0 h1 h2 h3
    rw [hd] at h0 h1 h2 h3
    have e0 : wordAt (packB r) 0 = 1 := h0
    have e1 : wordAt (packB r) 1 = 0 := h1
    have e2 : wordAt (packB r) 2 = 0 := h2
    have e3 : wordAt (packB r) 3 = 0 := h3
    have hm := (mk_dead e0).2 ⟨e1, e2, e3⟩
    rw [take_ok2 (packB_len r) (by rw [e0]; decide) e0 hm, hm]
    rfl
  | false =>
    unfold words at h0 h1 h2 h3
    rw [hd] at h0 h1 h2 h3
    have e0 : wordAt (packB r) 0 = 0 := h0
    have e1 : wordAt (packB r) 1 = r.key.toUInt64 := h1
    have e2 : wordAt (packB r) 2 = r.value.toUInt64 := h2
    have e3 : wordAt (packB r) 3 = r.seq.toUInt64 := h3
    rw [take_ok1 (packB_len r) (by rw [e0]; decide) (by rw [e0]; decide), e0, e1, e2, e3]
    obtain ⟨d, k, v, s⟩ := r
    simp at hd
    subst hd
    simp
theorem take_packD {r : Rec} (h : r.dead = true) : (takeR (packB r)).1 = Rec.mk true 0 0 0 := by rw [take_pack, h]; rfl
theorem take_packL {r : Rec} (h : r.dead = false) : (takeR (packB r)).1 = r := by rw [take_pack, h]; rfl
theorem take_err {l : List UInt8} (h : (takeR l).2 ≠ 0) : (takeR l).1 = Rec.mk false 0 0 0 := by
  unfold takeR at *
  split
  · rfl
  · split
    · rfl
    · split
      · rfl
      · rename_i h1 h2 h3
        rw [if_neg h1, if_neg h2, if_neg h3] at h
        exact absurd rfl h
theorem leAll_words {l : List UInt8} (h : l.length = 32) : leAll [wordAt l 0, wordAt l 1, wordAt l 2, wordAt l 3] = l := by
  have c : ∀ k, k < 4 → le8 (wordAt l k) = (l.drop (8 * k)).take 8 := fun k hk => le8_valN (by rw [List.length_take, List.length_drop]; omega)
  show le8 (wordAt l 0) ++ (le8 (wordAt l 1) ++ (le8 (wordAt l 2) ++ (le8 (wordAt l 3) ++ []))) = l
  rw [c 0 (by decide), c 1 (by decide), c 2 (by decide), c 3 (by decide), List.append_nil]
  have e : ∀ k, (l.drop (8 * k)).take 8 ++ l.drop (8 * (k + 1)) = l.drop (8 * k) := fun k => by
    conv => rhs; rw [← List.take_append_drop 8 (l.drop (8 * k))]
    rw [List.drop_drop]
    congr 2
  have e3 : (l.drop (8 * 3)).take 8 = l.drop (8 * 3) := List.take_of_length_le (by rw [List.length_drop]; omega)
  rw [e3, e 2, e 1, e 0]
  rfl
theorem pack_take {l : List UInt8} (h : l.length = 32) (h0 : (takeR l).2 = 0) : packB (takeR l).1 = l := by
  have hw := leAll_words h
  by_cases h1 : (1 : Int) < ((wordAt l 0).toNat : Int)
  · rw [take_bad1 h h1] at h0; cases h0
  · by_cases h2 : wordAt l 0 = 1
    · by_cases h3 : Rec.mk (decide (wordAt l 0 = 1)) (wordAt l 1).toInt64 (wordAt l 2).toInt64 (wordAt l 3).toInt64 = deadR
      · rw [take_ok2 h h1 h2 h3]
        show packB (Rec.mk (decide (wordAt l 0 = 1)) (wordAt l 1).toInt64 (wordAt l 2).toInt64 (wordAt l 3).toInt64) = l
        obtain ⟨e1, e2, e3⟩ := (mk_dead h2).1 h3
        rw [h3]
        rw [h2, e1, e2, e3] at hw
        exact hw
      · rw [take_bad2 h h2 h3] at h0; cases h0
    · rw [take_ok1 h h1 h2]
      have hz : wordAt l 0 = 0 := by
        have : (wordAt l 0).toNat ≠ 1 := fun e => h2 (UInt64.toNat_inj.1 e)
        exact UInt64.toNat_inj.1 (by show _ = 0; omega)
      show packB (Rec.mk (decide (wordAt l 0 = 1)) (wordAt l 1).toInt64 (wordAt l 2).toInt64 (wordAt l 3).toInt64) = l
      unfold packB words
      rw [if_neg (by simp [h2])]
      simp only [UInt64.toUInt64_toInt64]
      rw [hz] at hw
      exact hw

theorem back_law (r : Rec) (l : List UInt8) (w : World) (hl : l.length = 32) : Pure Try.prog 13 #[.agg (recV r).toArray, .agg (l.flatMap byteV).toArray] w (.bool true) := by
  refine calls_S (n := 56) (σ0 := (upd (upd fr0 0 (.agg #[.bool (r.dead), .int .i64 (r.key.toInt), .int .i64 (r.value.toInt), .int .i64 (r.seq.toInt)])) 1 (.agg ((l.flatMap byteV)).toArray))) (D := []) (A := []) Try.func13 rfl Try.ntmps13 rfl (a2_fr _ _) (SH.start w) ?_
  refine wpS_seq ?_
  refine wpS_region ?_
  refine s_e rfl ?_
  refine e_box (v := .agg #[.bool (r.dead), .int .i64 (r.key.toInt), .int .i64 (r.value.toInt), .int .i64 (r.seq.toInt)]) (l := [.bool (r.dead), .int .i64 (r.key.toInt), .int .i64 (r.value.toInt), .int .i64 (r.seq.toInt)]) rfl rfl ?_
  intro b_1
  refine s_e rfl ?_
  refine e_box (v := .agg ((l.flatMap byteV)).toArray) (l := (l.flatMap byteV)) rfl rfl ?_
  intro b_2
  refine s_y (v := .bool false) (y_assign rfl) rfl ?_
  refine wpL_nil ?_
  refine thenS_n ?_
  refine wpS_seq ?_
  refine wpS_region ?_
  refine s_y (v := .agg #[.bool (r.dead), .int .i64 (r.key.toInt), .int .i64 (r.value.toInt), .int .i64 (r.seq.toInt)]) (y_loadN (vs := [.bool (r.dead), .int .i64 (r.key.toInt), .int .i64 (r.value.toInt), .int .i64 (r.seq.toInt)]) rfl Try.isAgg23 Try.sizeOf23 (ownN (.t .h) rfl)) rfl ?_
  refine s_y (v := .agg (((packB r).flatMap byteV)).toArray) (y_call (args := #[.agg #[.bool (r.dead), .int .i64 (r.key.toInt), .int .i64 (r.value.toInt), .int .i64 (r.seq.toInt)]]) (v := .agg (((packB r).flatMap byteV)).toArray) Try.call48 (ev1 rfl) (fun w hs => pack_c r w)) rfl ?_
  refine s_e rfl ?_
  refine e_alloc (l := [.int .u8 0, .int .u8 0, .int .u8 0, .int .u8 0, .int .u8 0, .int .u8 0, .int .u8 0, .int .u8 0, .int .u8 0, .int .u8 0, .int .u8 0, .int .u8 0, .int .u8 0, .int .u8 0, .int .u8 0, .int .u8 0, .int .u8 0, .int .u8 0, .int .u8 0, .int .u8 0, .int .u8 0, .int .u8 0, .int .u8 0, .int .u8 0, .int .u8 0, .int .u8 0, .int .u8 0, .int .u8 0, .int .u8 0, .int .u8 0, .int .u8 0, .int .u8 0]) Try.zeroValue30 rfl ?_
  intro b_3
  refine s_e0 ?_
  refine e_storeW (vs := ((packB r).flatMap byteV)) rfl rfl rfl (fl_one byteV_one _) Try.sizeOf30 (by rw [fl_len byteV_len, packB_len]) .h rfl ?_
  refine wpL_nil ?_
  refine thenS_n ?_
  refine wpS_seq ?_
  refine wpS_region ?_
  refine s_y (v := .slice (some ⟨b_3, 0, none⟩) 32 32) (y_sliceA rfl Try.underlying30 Try.sizeOf5) rfl ?_
  refine s_y (v := .tuple #[.agg #[.bool (((takeR (packB r)).1).dead), .int .i64 ((((takeR (packB r)).1).key).toInt), .int .i64 ((((takeR (packB r)).1).value).toInt), .int .i64 ((((takeR (packB r)).1).seq).toInt)], .int .i64 ((takeR (packB r)).2)]) (y_call (args := #[.slice (some ⟨b_3, 0, none⟩) 32 32]) (v := .tuple #[.agg #[.bool (((takeR (packB r)).1).dead), .int .i64 ((((takeR (packB r)).1).key).toInt), .int .i64 ((((takeR (packB r)).1).value).toInt), .int .i64 ((((takeR (packB r)).1).seq).toInt)], .int .i64 ((takeR (packB r)).2)]) Try.call68 (ev1 rfl) (fun w hs => take_c (some ⟨b_3, 0, none⟩) 32 32 (packB r) w (by first | exact packB_len _ | assumption) (celR .h w hs) (by omega) (by omega))) rfl ?_
  refine s_y (v := .tuple #[.agg #[.bool (((takeR (packB r)).1).dead), .int .i64 ((((takeR (packB r)).1).key).toInt), .int .i64 ((((takeR (packB r)).1).value).toInt), .int .i64 ((((takeR (packB r)).1).seq).toInt)], .int .i64 ((takeR (packB r)).2)]) (y_move rfl) rfl ?_
  refine s_y (v := .agg #[.bool (((takeR (packB r)).1).dead), .int .i64 ((((takeR (packB r)).1).key).toInt), .int .i64 ((((takeR (packB r)).1).value).toInt), .int .i64 ((((takeR (packB r)).1).seq).toInt)]) (y_extract (v := .agg #[.bool (((takeR (packB r)).1).dead), .int .i64 ((((takeR (packB r)).1).key).toInt), .int .i64 ((((takeR (packB r)).1).value).toInt), .int .i64 ((((takeR (packB r)).1).seq).toInt)]) rfl rfl) rfl ?_
  refine s_y (v := .int .i64 ((takeR (packB r)).2)) (y_extract (v := .int .i64 ((takeR (packB r)).2)) rfl rfl) rfl ?_
  refine s_e rfl ?_
  refine e_alloc (l := [.bool false, .int .i64 0, .int .i64 0, .int .i64 0]) Try.zeroValue23 rfl ?_
  intro b_4
  refine s_e0 ?_
  refine e_store (vs := [.bool (((takeR (packB r)).1).dead), .int .i64 ((((takeR (packB r)).1).key).toInt), .int .i64 ((((takeR (packB r)).1).value).toInt), .int .i64 ((((takeR (packB r)).1).seq).toInt)]) (l' := [.bool (((takeR (packB r)).1).dead), .int .i64 ((((takeR (packB r)).1).key).toInt), .int .i64 ((((takeR (packB r)).1).value).toInt), .int .i64 ((((takeR (packB r)).1).seq).toInt)]) rfl rfl rfl rfl Try.sizeOf23 .h (Nat.le_of_ble_eq_true rfl) rfl ?_
  refine s_y (v := .int .i64 ((takeR (packB r)).2)) (y_assign rfl) rfl ?_
  refine wpL_nil ?_
  refine thenS_n ?_
  refine wpS_seq ?_
  refine wpS_region ?_
  refine s_y (v := .agg #[.bool (r.dead), .int .i64 (r.key.toInt), .int .i64 (r.value.toInt), .int .i64 (r.seq.toInt)]) (y_loadN (vs := [.bool (r.dead), .int .i64 (r.key.toInt), .int .i64 (r.value.toInt), .int .i64 (r.seq.toInt)]) rfl Try.isAgg23 Try.sizeOf23 (ownN (.t (.t (.t .h))) rfl)) rfl ?_
  refine s_e rfl ?_
  refine e_alloc (l := [.bool false, .int .i64 0, .int .i64 0, .int .i64 0]) Try.zeroValue23 rfl ?_
  intro b_5
  refine s_e0 ?_
  refine e_store (vs := [.bool (r.dead), .int .i64 (r.key.toInt), .int .i64 (r.value.toInt), .int .i64 (r.seq.toInt)]) (l' := [.bool (r.dead), .int .i64 (r.key.toInt), .int .i64 (r.value.toInt), .int .i64 (r.seq.toInt)]) rfl rfl rfl rfl Try.sizeOf23 .h (Nat.le_of_ble_eq_true rfl) rfl ?_
  refine wpL_nil ?_
  refine thenS_n ?_
  refine wpS_seq ?_
  refine wpS_seq ?_
  refine wpS_region ?_
  refine s_y (v := .pointer (some ⟨b_1, 0, none⟩)) (y_fieldAddr (o' := 0) rfl Try.underlying23 rfl Try.sizeOf4 (by decide) rfl) rfl ?_
  refine s_y (v := .bool (r.dead)) (y_load1 rfl Try.isAgg4 (own1 (.t (.t (.t (.t .h)))) rfl)) rfl ?_
  refine wpL_nil ?_
  refine thenS_n ?_
  refine wpS_cond (t := r.dead) rfl (fun b6 => ?_) (fun b6 => ?_)
  · -- r.dead true
    refine wpS_region ?_
    refine s_y (v := .agg #[.bool true, .int .i64 0, .int .i64 0, .int .i64 0]) (y_buildL (m := [(0, .bool true)]) (vs := #[.bool true, .int .i64 0, .int .i64 0, .int .i64 0]) (evc rfl evn) (fun w => by kernel_rfl)) rfl ?_
    refine s_e0 ?_
    refine e_store (vs := [.bool true, .int .i64 0, .int .i64 0, .int .i64 0]) (l' := [.bool true, .int .i64 0, .int .i64 0, .int .i64 0]) rfl rfl rfl rfl Try.sizeOf23 .h (Nat.le_of_ble_eq_true rfl) rfl ?_
    refine wpL_nil ?_
    refine thenS_n ?_
    refine wpS_seq ?_
    refine wpS_region ?_
    refine s_y (v := .slice (some ⟨b_2, 0, none⟩) 32 32) (y_sliceA rfl Try.underlying30 Try.sizeOf5) rfl ?_
    refine s_y (v := .tuple #[.agg #[.bool (((takeR l).1).dead), .int .i64 ((((takeR l).1).key).toInt), .int .i64 ((((takeR l).1).value).toInt), .int .i64 ((((takeR l).1).seq).toInt)], .int .i64 ((takeR l).2)]) (y_call (args := #[.slice (some ⟨b_2, 0, none⟩) 32 32]) (v := .tuple #[.agg #[.bool (((takeR l).1).dead), .int .i64 ((((takeR l).1).key).toInt), .int .i64 ((((takeR l).1).value).toInt), .int .i64 ((((takeR l).1).seq).toInt)], .int .i64 ((takeR l).2)]) Try.call68 (ev1 rfl) (fun w hs => take_c (some ⟨b_2, 0, none⟩) 32 32 l w (by first | exact packB_len _ | assumption) (celR (.t (.t (.t .h))) w hs) (by omega) (by omega))) rfl ?_
    refine s_y (v := .tuple #[.agg #[.bool (((takeR l).1).dead), .int .i64 ((((takeR l).1).key).toInt), .int .i64 ((((takeR l).1).value).toInt), .int .i64 ((((takeR l).1).seq).toInt)], .int .i64 ((takeR l).2)]) (y_move rfl) rfl ?_
    refine s_y (v := .agg #[.bool (((takeR l).1).dead), .int .i64 ((((takeR l).1).key).toInt), .int .i64 ((((takeR l).1).value).toInt), .int .i64 ((((takeR l).1).seq).toInt)]) (y_extract (v := .agg #[.bool (((takeR l).1).dead), .int .i64 ((((takeR l).1).key).toInt), .int .i64 ((((takeR l).1).value).toInt), .int .i64 ((((takeR l).1).seq).toInt)]) rfl rfl) rfl ?_
    refine s_y (v := .int .i64 ((takeR l).2)) (y_extract (v := .int .i64 ((takeR l).2)) rfl rfl) rfl ?_
    refine s_e rfl ?_
    refine e_alloc (l := [.bool false, .int .i64 0, .int .i64 0, .int .i64 0]) Try.zeroValue23 rfl ?_
    intro b_7
    refine s_e0 ?_
    refine e_store (vs := [.bool (((takeR l).1).dead), .int .i64 ((((takeR l).1).key).toInt), .int .i64 ((((takeR l).1).value).toInt), .int .i64 ((((takeR l).1).seq).toInt)]) (l' := [.bool (((takeR l).1).dead), .int .i64 ((((takeR l).1).key).toInt), .int .i64 ((((takeR l).1).value).toInt), .int .i64 ((((takeR l).1).seq).toInt)]) rfl rfl rfl rfl Try.sizeOf23 .h (Nat.le_of_ble_eq_true rfl) rfl ?_
    refine s_y (v := .int .i64 ((takeR l).2)) (y_assign rfl) rfl ?_
    refine wpL_nil ?_
    refine thenS_n ?_
    refine wpS_seq ?_
    refine wpS_lex (by kernel_rfl) (by kernel_rfl) ?_
    refine x_y (v := .bool true) (y_call (args := #[]) (v := .bool true) Try.call44 ev0 (fun w hs => awake09_c w)) rfl ?_
    refine x_y (v := .bool true) (y_move rfl) rfl ?_
    refine x_gy (y_move rfl) rfl rfl rfl rfl rfl rfl ?_
    refine x_gy (y_eql (a := (takeR (packB r)).2) (b := 0) rfl rfl rfl) rfl rfl rfl rfl rfl rfl ?_
    refine x_y (v := .bool (decide (((takeR (packB r)).2 : Int) = 0))) (y_pickT (v := .bool (decide (((takeR (packB r)).2 : Int) = 0))) rfl rfl rfl) rfl ?_
    refine x_y (v := .bool (decide (((takeR (packB r)).2 : Int) = 0))) (y_move rfl) rfl ?_
    refine x_gy (y_loadN (vs := [.bool (((takeR (packB r)).1).dead), .int .i64 ((((takeR (packB r)).1).key).toInt), .int .i64 ((((takeR (packB r)).1).value).toInt), .int .i64 ((((takeR (packB r)).1).seq).toInt)]) rfl Try.isAgg23 Try.sizeOf23 (ownN (.t (.t .h)) rfl)) rfl rfl rfl rfl (b' := decide (((takeR (packB r)).2 : Int) = 0)) rfl (decide_eq_true (congrArg Prod.snd (take_pack r))) ?_
    refine x_gy (y_loadN (vs := [.bool true, .int .i64 0, .int .i64 0, .int .i64 0]) rfl Try.isAgg23 Try.sizeOf23 (ownN (.t .h) rfl)) rfl rfl rfl rfl (b' := decide (((takeR (packB r)).2 : Int) = 0)) rfl (decide_eq_true (congrArg Prod.snd (take_pack r))) ?_
    refine x_gy (y_eqlS (a := #[.bool (((takeR (packB r)).1).dead), .int .i64 ((((takeR (packB r)).1).key).toInt), .int .i64 ((((takeR (packB r)).1).value).toInt), .int .i64 ((((takeR (packB r)).1).seq).toInt)]) (b := #[.bool true, .int .i64 0, .int .i64 0, .int .i64 0]) (c := decide (((takeR (packB r)).1) = (Rec.mk true 0 0 0))) Try.eqGuardType23 (fun w => equalR w ((takeR (packB r)).1) (Rec.mk true 0 0 0)) rfl rfl) rfl rfl rfl rfl (b' := decide (((takeR (packB r)).2 : Int) = 0)) rfl (decide_eq_true (congrArg Prod.snd (take_pack r))) ?_
    refine x_y (v := .bool (decide (((takeR (packB r)).1) = (Rec.mk true 0 0 0)))) (y_pickT (b := decide (((takeR (packB r)).2 : Int) = 0)) (v := .bool (decide (((takeR (packB r)).1) = (Rec.mk true 0 0 0)))) rfl (decide_eq_true (congrArg Prod.snd (take_pack r))) rfl) rfl ?_
    refine x_y (v := .bool (decide (((takeR (packB r)).1) = (Rec.mk true 0 0 0)))) (y_move rfl) rfl ?_
    refine x_gy (y_move rfl) rfl rfl rfl rfl (b' := decide (((takeR (packB r)).1) = (Rec.mk true 0 0 0))) rfl (decide_eq_true (take_packD (by assumption))) ?_
    refine x_gy (y_neq (a := (takeR l).2) (b := 0) rfl rfl rfl) rfl rfl rfl rfl (b' := decide (((takeR (packB r)).1) = (Rec.mk true 0 0 0))) rfl (decide_eq_true (take_packD (by assumption))) ?_
    refine x_gy (y_move rfl) rfl rfl rfl rfl (b' := decide (((takeR (packB r)).1) = (Rec.mk true 0 0 0))) rfl (decide_eq_true (take_packD (by assumption))) ?_
    rcases Bool.eq_false_or_eq_true (decide (((takeR l).2 : Int) ≠ 0)) with b8 | b8
    · -- decide (((takeR l).2 : Int) ≠ 0) True
      have p8 := of_decide_eq_true b8
      refine x_gy (y_loadN (vs := [.bool (((takeR l).1).dead), .int .i64 ((((takeR l).1).key).toInt), .int .i64 ((((takeR l).1).value).toInt), .int .i64 ((((takeR l).1).seq).toInt)]) rfl Try.isAgg23 Try.sizeOf23 (ownN .h rfl)) rfl rfl rfl rfl (b' := decide (((takeR l).2 : Int) ≠ 0)) rfl b8 ?_
      refine x_gy (y_buildL (m := []) (vs := #[.bool false, .int .i64 0, .int .i64 0, .int .i64 0]) evn (fun w => by kernel_rfl)) rfl rfl rfl rfl (b' := decide (((takeR l).2 : Int) ≠ 0)) rfl b8 ?_
      refine x_gy (y_eqlS (a := #[.bool (((takeR l).1).dead), .int .i64 ((((takeR l).1).key).toInt), .int .i64 ((((takeR l).1).value).toInt), .int .i64 ((((takeR l).1).seq).toInt)]) (b := #[.bool false, .int .i64 0, .int .i64 0, .int .i64 0]) (c := decide (((takeR l).1) = (Rec.mk false 0 0 0))) Try.eqGuardType23 (fun w => equalR w ((takeR l).1) (Rec.mk false 0 0 0)) rfl rfl) rfl rfl rfl rfl (b' := decide (((takeR l).2 : Int) ≠ 0)) rfl b8 ?_
      refine x_gy (y_pickT (b := decide (((takeR l).2 : Int) ≠ 0)) (v := .bool (decide (((takeR l).1) = (Rec.mk false 0 0 0)))) rfl b8 rfl) rfl rfl rfl rfl (b' := decide (((takeR (packB r)).1) = (Rec.mk true 0 0 0))) rfl (decide_eq_true (take_packD (by assumption))) ?_
      refine x_gy (y_move rfl) rfl rfl rfl rfl (b' := decide (((takeR (packB r)).1) = (Rec.mk true 0 0 0))) rfl (decide_eq_true (take_packD (by assumption))) ?_
      refine x_no rfl rfl rfl rfl (b' := decide (((takeR l).1) = (Rec.mk false 0 0 0))) rfl (decide_eq_true (take_err (by assumption))) ?_
      refine x_no rfl rfl rfl rfl (b' := decide (((takeR l).1) = (Rec.mk false 0 0 0))) rfl (decide_eq_true (take_err (by assumption))) ?_
      refine x_no rfl rfl rfl rfl (b' := decide (((takeR l).1) = (Rec.mk false 0 0 0))) rfl (decide_eq_true (take_err (by assumption))) ?_
      refine x_nu rfl rfl rfl rfl rfl ?_
      refine x_nu rfl rfl rfl rfl rfl ?_
      refine x_nu rfl rfl rfl rfl rfl ?_
      refine x_nu rfl rfl rfl rfl rfl ?_
      refine x_no rfl rfl rfl rfl (b' := decide (((takeR l).1) = (Rec.mk false 0 0 0))) rfl (decide_eq_true (take_err (by assumption))) ?_
      refine x_gy (y_pickT (b := decide (((takeR l).1) = (Rec.mk false 0 0 0))) (v := .bool true) rfl (decide_eq_true (take_err (by assumption))) rfl) rfl rfl rfl rfl (b' := decide (((takeR (packB r)).1) = (Rec.mk true 0 0 0))) rfl (decide_eq_true (take_packD (by assumption))) ?_
      refine x_y (v := .bool true) (y_pickT (b := decide (((takeR (packB r)).1) = (Rec.mk true 0 0 0))) (v := .bool true) rfl (decide_eq_true (take_packD (by assumption))) rfl) rfl ?_
      refine x_y (v := .bool true) (y_assign rfl) rfl ?_
      refine x_nil ?_
      refine thenS_n ?_
      refine wpS_ret ?_
      refine fin1 (v := .bool true) (.inr rfl) (.nil) Try.results13 rfl ?_
      exact fun w' hs => ⟨rfl, hs⟩
    · -- decide (((takeR l).2 : Int) ≠ 0) False
      have p8 := of_decide_eq_false b8
      refine x_no rfl rfl rfl rfl (b' := decide (((takeR l).2 : Int) ≠ 0)) rfl b8 ?_
      refine x_no rfl rfl rfl rfl (b' := decide (((takeR l).2 : Int) ≠ 0)) rfl b8 ?_
      refine x_no rfl rfl rfl rfl (b' := decide (((takeR l).2 : Int) ≠ 0)) rfl b8 ?_
      refine x_gy (y_pickF (b := decide (((takeR l).2 : Int) ≠ 0)) (v := .bool false) rfl b8 rfl) rfl rfl rfl rfl (b' := decide (((takeR (packB r)).1) = (Rec.mk true 0 0 0))) rfl (decide_eq_true (take_packD (by assumption))) ?_
      refine x_gy (y_move rfl) rfl rfl rfl rfl (b' := decide (((takeR (packB r)).1) = (Rec.mk true 0 0 0))) rfl (decide_eq_true (take_packD (by assumption))) ?_
      refine x_gy (y_move rfl) rfl rfl rfl rfl rfl rfl ?_
      refine x_gy (y_eql (a := (takeR l).2) (b := 0) rfl rfl rfl) rfl rfl rfl rfl rfl rfl ?_
      refine x_gy (y_move rfl) rfl rfl rfl rfl rfl rfl ?_
      refine x_gy (y_loadN (vs := [.bool (((takeR l).1).dead), .int .i64 ((((takeR l).1).key).toInt), .int .i64 ((((takeR l).1).value).toInt), .int .i64 ((((takeR l).1).seq).toInt)]) rfl Try.isAgg23 Try.sizeOf23 (ownN .h rfl)) rfl rfl rfl rfl (b' := decide (((takeR l).2 : Int) = 0)) rfl (decide_eq_true (Decidable.not_not.1 (by assumption))) ?_
      refine x_gy (y_call (args := #[.agg #[.bool (((takeR l).1).dead), .int .i64 ((((takeR l).1).key).toInt), .int .i64 ((((takeR l).1).value).toInt), .int .i64 ((((takeR l).1).seq).toInt)]]) (v := .agg (((packB ((takeR l).1)).flatMap byteV)).toArray) Try.call48 (ev1 rfl) (fun w hs => pack_c ((takeR l).1) w)) rfl rfl rfl rfl (b' := decide (((takeR l).2 : Int) = 0)) rfl (decide_eq_true (Decidable.not_not.1 (by assumption))) ?_
      refine x_gy (y_loadW (vs := (l.flatMap byteV)) rfl Try.isAgg30 Try.sizeOf30 (by rw [fl_len byteV_len, Nat.mul_one]; first | exact packB_len _ | assumption) (fun w hs => ownN (.t (.t (.t (.t .h)))) (by simp only [List.drop_zero]; exact List.take_length) w hs)) rfl rfl rfl rfl (b' := decide (((takeR l).2 : Int) = 0)) rfl (decide_eq_true (Decidable.not_not.1 (by assumption))) ?_
      refine x_gy (y_eqlS (a := (((packB ((takeR l).1)).flatMap byteV)).toArray) (b := ((l.flatMap byteV)).toArray) (c := decide ((packB ((takeR l).1)) = l)) Try.eqGuardType30 (fun w => equalB32 w (packB ((takeR l).1)) l (packB_len _) (by assumption)) rfl rfl) rfl rfl rfl rfl (b' := decide (((takeR l).2 : Int) = 0)) rfl (decide_eq_true (Decidable.not_not.1 (by assumption))) ?_
      refine x_gy (y_pickT (b := decide (((takeR l).2 : Int) = 0)) (v := .bool (decide ((packB ((takeR l).1)) = l))) rfl (decide_eq_true (Decidable.not_not.1 (by assumption))) rfl) rfl rfl rfl rfl rfl rfl ?_
      refine x_gy (y_pickF (v := .bool (decide ((packB ((takeR l).1)) = l))) rfl rfl rfl) rfl rfl rfl rfl (b' := decide (((takeR (packB r)).1) = (Rec.mk true 0 0 0))) rfl (decide_eq_true (take_packD (by assumption))) ?_
      refine x_y (v := .bool (decide ((packB ((takeR l).1)) = l))) (y_pickT (b := decide (((takeR (packB r)).1) = (Rec.mk true 0 0 0))) (v := .bool (decide ((packB ((takeR l).1)) = l))) rfl (decide_eq_true (take_packD (by assumption))) rfl) rfl ?_
      refine x_y (v := .bool (decide ((packB ((takeR l).1)) = l))) (y_assign rfl) rfl ?_
      refine x_nil ?_
      refine thenS_n ?_
      refine wpS_ret ?_
      refine fin1 (v := .bool (decide ((packB ((takeR l).1)) = l))) (.inr rfl) (.nil) Try.results13 rfl ?_
      exact fun w' hs => ⟨congrArg (fun b => Ending.returned (Value.bool b)) (show (decide ((packB ((takeR l).1)) = l)) = true from (decide_eq_true (pack_take hl (Decidable.not_not.1 (by assumption))))), hs⟩
  · -- r.dead false
    refine wpS_skip ?_
    refine thenS_n ?_
    refine wpS_seq ?_
    refine wpS_region ?_
    refine s_y (v := .slice (some ⟨b_2, 0, none⟩) 32 32) (y_sliceA rfl Try.underlying30 Try.sizeOf5) rfl ?_
    refine s_y (v := .tuple #[.agg #[.bool (((takeR l).1).dead), .int .i64 ((((takeR l).1).key).toInt), .int .i64 ((((takeR l).1).value).toInt), .int .i64 ((((takeR l).1).seq).toInt)], .int .i64 ((takeR l).2)]) (y_call (args := #[.slice (some ⟨b_2, 0, none⟩) 32 32]) (v := .tuple #[.agg #[.bool (((takeR l).1).dead), .int .i64 ((((takeR l).1).key).toInt), .int .i64 ((((takeR l).1).value).toInt), .int .i64 ((((takeR l).1).seq).toInt)], .int .i64 ((takeR l).2)]) Try.call68 (ev1 rfl) (fun w hs => take_c (some ⟨b_2, 0, none⟩) 32 32 l w (by first | exact packB_len _ | assumption) (celR (.t (.t (.t .h))) w hs) (by omega) (by omega))) rfl ?_
    refine s_y (v := .tuple #[.agg #[.bool (((takeR l).1).dead), .int .i64 ((((takeR l).1).key).toInt), .int .i64 ((((takeR l).1).value).toInt), .int .i64 ((((takeR l).1).seq).toInt)], .int .i64 ((takeR l).2)]) (y_move rfl) rfl ?_
    refine s_y (v := .agg #[.bool (((takeR l).1).dead), .int .i64 ((((takeR l).1).key).toInt), .int .i64 ((((takeR l).1).value).toInt), .int .i64 ((((takeR l).1).seq).toInt)]) (y_extract (v := .agg #[.bool (((takeR l).1).dead), .int .i64 ((((takeR l).1).key).toInt), .int .i64 ((((takeR l).1).value).toInt), .int .i64 ((((takeR l).1).seq).toInt)]) rfl rfl) rfl ?_
    refine s_y (v := .int .i64 ((takeR l).2)) (y_extract (v := .int .i64 ((takeR l).2)) rfl rfl) rfl ?_
    refine s_e rfl ?_
    refine e_alloc (l := [.bool false, .int .i64 0, .int .i64 0, .int .i64 0]) Try.zeroValue23 rfl ?_
    intro b_9
    refine s_e0 ?_
    refine e_store (vs := [.bool (((takeR l).1).dead), .int .i64 ((((takeR l).1).key).toInt), .int .i64 ((((takeR l).1).value).toInt), .int .i64 ((((takeR l).1).seq).toInt)]) (l' := [.bool (((takeR l).1).dead), .int .i64 ((((takeR l).1).key).toInt), .int .i64 ((((takeR l).1).value).toInt), .int .i64 ((((takeR l).1).seq).toInt)]) rfl rfl rfl rfl Try.sizeOf23 .h (Nat.le_of_ble_eq_true rfl) rfl ?_
    refine s_y (v := .int .i64 ((takeR l).2)) (y_assign rfl) rfl ?_
    refine wpL_nil ?_
    refine thenS_n ?_
    refine wpS_seq ?_
    refine wpS_lex (by kernel_rfl) (by kernel_rfl) ?_
    refine x_y (v := .bool true) (y_call (args := #[]) (v := .bool true) Try.call44 ev0 (fun w hs => awake09_c w)) rfl ?_
    refine x_y (v := .bool true) (y_move rfl) rfl ?_
    refine x_gy (y_move rfl) rfl rfl rfl rfl rfl rfl ?_
    refine x_gy (y_eql (a := (takeR (packB r)).2) (b := 0) rfl rfl rfl) rfl rfl rfl rfl rfl rfl ?_
    refine x_y (v := .bool (decide (((takeR (packB r)).2 : Int) = 0))) (y_pickT (v := .bool (decide (((takeR (packB r)).2 : Int) = 0))) rfl rfl rfl) rfl ?_
    refine x_y (v := .bool (decide (((takeR (packB r)).2 : Int) = 0))) (y_move rfl) rfl ?_
    refine x_gy (y_loadN (vs := [.bool (((takeR (packB r)).1).dead), .int .i64 ((((takeR (packB r)).1).key).toInt), .int .i64 ((((takeR (packB r)).1).value).toInt), .int .i64 ((((takeR (packB r)).1).seq).toInt)]) rfl Try.isAgg23 Try.sizeOf23 (ownN (.t (.t .h)) rfl)) rfl rfl rfl rfl (b' := decide (((takeR (packB r)).2 : Int) = 0)) rfl (decide_eq_true (congrArg Prod.snd (take_pack r))) ?_
    refine x_gy (y_loadN (vs := [.bool (r.dead), .int .i64 (r.key.toInt), .int .i64 (r.value.toInt), .int .i64 (r.seq.toInt)]) rfl Try.isAgg23 Try.sizeOf23 (ownN (.t .h) rfl)) rfl rfl rfl rfl (b' := decide (((takeR (packB r)).2 : Int) = 0)) rfl (decide_eq_true (congrArg Prod.snd (take_pack r))) ?_
    refine x_gy (y_eqlS (a := #[.bool (((takeR (packB r)).1).dead), .int .i64 ((((takeR (packB r)).1).key).toInt), .int .i64 ((((takeR (packB r)).1).value).toInt), .int .i64 ((((takeR (packB r)).1).seq).toInt)]) (b := #[.bool (r.dead), .int .i64 (r.key.toInt), .int .i64 (r.value.toInt), .int .i64 (r.seq.toInt)]) (c := decide (((takeR (packB r)).1) = r)) Try.eqGuardType23 (fun w => equalR w ((takeR (packB r)).1) r) rfl rfl) rfl rfl rfl rfl (b' := decide (((takeR (packB r)).2 : Int) = 0)) rfl (decide_eq_true (congrArg Prod.snd (take_pack r))) ?_
    refine x_y (v := .bool (decide (((takeR (packB r)).1) = r))) (y_pickT (b := decide (((takeR (packB r)).2 : Int) = 0)) (v := .bool (decide (((takeR (packB r)).1) = r))) rfl (decide_eq_true (congrArg Prod.snd (take_pack r))) rfl) rfl ?_
    refine x_y (v := .bool (decide (((takeR (packB r)).1) = r))) (y_move rfl) rfl ?_
    refine x_gy (y_move rfl) rfl rfl rfl rfl (b' := decide (((takeR (packB r)).1) = r)) rfl (decide_eq_true (take_packL (by assumption))) ?_
    refine x_gy (y_neq (a := (takeR l).2) (b := 0) rfl rfl rfl) rfl rfl rfl rfl (b' := decide (((takeR (packB r)).1) = r)) rfl (decide_eq_true (take_packL (by assumption))) ?_
    refine x_gy (y_move rfl) rfl rfl rfl rfl (b' := decide (((takeR (packB r)).1) = r)) rfl (decide_eq_true (take_packL (by assumption))) ?_
    rcases Bool.eq_false_or_eq_true (decide (((takeR l).2 : Int) ≠ 0)) with b10 | b10
    · -- decide (((takeR l).2 : Int) ≠ 0) True
      have p10 := of_decide_eq_true b10
      refine x_gy (y_loadN (vs := [.bool (((takeR l).1).dead), .int .i64 ((((takeR l).1).key).toInt), .int .i64 ((((takeR l).1).value).toInt), .int .i64 ((((takeR l).1).seq).toInt)]) rfl Try.isAgg23 Try.sizeOf23 (ownN .h rfl)) rfl rfl rfl rfl (b' := decide (((takeR l).2 : Int) ≠ 0)) rfl b10 ?_
      refine x_gy (y_buildL (m := []) (vs := #[.bool false, .int .i64 0, .int .i64 0, .int .i64 0]) evn (fun w => by kernel_rfl)) rfl rfl rfl rfl (b' := decide (((takeR l).2 : Int) ≠ 0)) rfl b10 ?_
      refine x_gy (y_eqlS (a := #[.bool (((takeR l).1).dead), .int .i64 ((((takeR l).1).key).toInt), .int .i64 ((((takeR l).1).value).toInt), .int .i64 ((((takeR l).1).seq).toInt)]) (b := #[.bool false, .int .i64 0, .int .i64 0, .int .i64 0]) (c := decide (((takeR l).1) = (Rec.mk false 0 0 0))) Try.eqGuardType23 (fun w => equalR w ((takeR l).1) (Rec.mk false 0 0 0)) rfl rfl) rfl rfl rfl rfl (b' := decide (((takeR l).2 : Int) ≠ 0)) rfl b10 ?_
      refine x_gy (y_pickT (b := decide (((takeR l).2 : Int) ≠ 0)) (v := .bool (decide (((takeR l).1) = (Rec.mk false 0 0 0)))) rfl b10 rfl) rfl rfl rfl rfl (b' := decide (((takeR (packB r)).1) = r)) rfl (decide_eq_true (take_packL (by assumption))) ?_
      refine x_gy (y_move rfl) rfl rfl rfl rfl (b' := decide (((takeR (packB r)).1) = r)) rfl (decide_eq_true (take_packL (by assumption))) ?_
      refine x_no rfl rfl rfl rfl (b' := decide (((takeR l).1) = (Rec.mk false 0 0 0))) rfl (decide_eq_true (take_err (by assumption))) ?_
      refine x_no rfl rfl rfl rfl (b' := decide (((takeR l).1) = (Rec.mk false 0 0 0))) rfl (decide_eq_true (take_err (by assumption))) ?_
      refine x_no rfl rfl rfl rfl (b' := decide (((takeR l).1) = (Rec.mk false 0 0 0))) rfl (decide_eq_true (take_err (by assumption))) ?_
      refine x_nu rfl rfl rfl rfl rfl ?_
      refine x_nu rfl rfl rfl rfl rfl ?_
      refine x_nu rfl rfl rfl rfl rfl ?_
      refine x_nu rfl rfl rfl rfl rfl ?_
      refine x_no rfl rfl rfl rfl (b' := decide (((takeR l).1) = (Rec.mk false 0 0 0))) rfl (decide_eq_true (take_err (by assumption))) ?_
      refine x_gy (y_pickT (b := decide (((takeR l).1) = (Rec.mk false 0 0 0))) (v := .bool true) rfl (decide_eq_true (take_err (by assumption))) rfl) rfl rfl rfl rfl (b' := decide (((takeR (packB r)).1) = r)) rfl (decide_eq_true (take_packL (by assumption))) ?_
      refine x_y (v := .bool true) (y_pickT (b := decide (((takeR (packB r)).1) = r)) (v := .bool true) rfl (decide_eq_true (take_packL (by assumption))) rfl) rfl ?_
      refine x_y (v := .bool true) (y_assign rfl) rfl ?_
      refine x_nil ?_
      refine thenS_n ?_
      refine wpS_ret ?_
      refine fin1 (v := .bool true) (.inr rfl) (.nil) Try.results13 rfl ?_
      exact fun w' hs => ⟨rfl, hs⟩
    · -- decide (((takeR l).2 : Int) ≠ 0) False
      have p10 := of_decide_eq_false b10
      refine x_no rfl rfl rfl rfl (b' := decide (((takeR l).2 : Int) ≠ 0)) rfl b10 ?_
      refine x_no rfl rfl rfl rfl (b' := decide (((takeR l).2 : Int) ≠ 0)) rfl b10 ?_
      refine x_no rfl rfl rfl rfl (b' := decide (((takeR l).2 : Int) ≠ 0)) rfl b10 ?_
      refine x_gy (y_pickF (b := decide (((takeR l).2 : Int) ≠ 0)) (v := .bool false) rfl b10 rfl) rfl rfl rfl rfl (b' := decide (((takeR (packB r)).1) = r)) rfl (decide_eq_true (take_packL (by assumption))) ?_
      refine x_gy (y_move rfl) rfl rfl rfl rfl (b' := decide (((takeR (packB r)).1) = r)) rfl (decide_eq_true (take_packL (by assumption))) ?_
      refine x_gy (y_move rfl) rfl rfl rfl rfl rfl rfl ?_
      refine x_gy (y_eql (a := (takeR l).2) (b := 0) rfl rfl rfl) rfl rfl rfl rfl rfl rfl ?_
      refine x_gy (y_move rfl) rfl rfl rfl rfl rfl rfl ?_
      refine x_gy (y_loadN (vs := [.bool (((takeR l).1).dead), .int .i64 ((((takeR l).1).key).toInt), .int .i64 ((((takeR l).1).value).toInt), .int .i64 ((((takeR l).1).seq).toInt)]) rfl Try.isAgg23 Try.sizeOf23 (ownN .h rfl)) rfl rfl rfl rfl (b' := decide (((takeR l).2 : Int) = 0)) rfl (decide_eq_true (Decidable.not_not.1 (by assumption))) ?_
      refine x_gy (y_call (args := #[.agg #[.bool (((takeR l).1).dead), .int .i64 ((((takeR l).1).key).toInt), .int .i64 ((((takeR l).1).value).toInt), .int .i64 ((((takeR l).1).seq).toInt)]]) (v := .agg (((packB ((takeR l).1)).flatMap byteV)).toArray) Try.call48 (ev1 rfl) (fun w hs => pack_c ((takeR l).1) w)) rfl rfl rfl rfl (b' := decide (((takeR l).2 : Int) = 0)) rfl (decide_eq_true (Decidable.not_not.1 (by assumption))) ?_
      refine x_gy (y_loadW (vs := (l.flatMap byteV)) rfl Try.isAgg30 Try.sizeOf30 (by rw [fl_len byteV_len, Nat.mul_one]; first | exact packB_len _ | assumption) (fun w hs => ownN (.t (.t (.t (.t .h)))) (by simp only [List.drop_zero]; exact List.take_length) w hs)) rfl rfl rfl rfl (b' := decide (((takeR l).2 : Int) = 0)) rfl (decide_eq_true (Decidable.not_not.1 (by assumption))) ?_
      refine x_gy (y_eqlS (a := (((packB ((takeR l).1)).flatMap byteV)).toArray) (b := ((l.flatMap byteV)).toArray) (c := decide ((packB ((takeR l).1)) = l)) Try.eqGuardType30 (fun w => equalB32 w (packB ((takeR l).1)) l (packB_len _) (by assumption)) rfl rfl) rfl rfl rfl rfl (b' := decide (((takeR l).2 : Int) = 0)) rfl (decide_eq_true (Decidable.not_not.1 (by assumption))) ?_
      refine x_gy (y_pickT (b := decide (((takeR l).2 : Int) = 0)) (v := .bool (decide ((packB ((takeR l).1)) = l))) rfl (decide_eq_true (Decidable.not_not.1 (by assumption))) rfl) rfl rfl rfl rfl rfl rfl ?_
      refine x_gy (y_pickF (v := .bool (decide ((packB ((takeR l).1)) = l))) rfl rfl rfl) rfl rfl rfl rfl (b' := decide (((takeR (packB r)).1) = r)) rfl (decide_eq_true (take_packL (by assumption))) ?_
      refine x_y (v := .bool (decide ((packB ((takeR l).1)) = l))) (y_pickT (b := decide (((takeR (packB r)).1) = r)) (v := .bool (decide ((packB ((takeR l).1)) = l))) rfl (decide_eq_true (take_packL (by assumption))) rfl) rfl ?_
      refine x_y (v := .bool (decide ((packB ((takeR l).1)) = l))) (y_assign rfl) rfl ?_
      refine x_nil ?_
      refine thenS_n ?_
      refine wpS_ret ?_
      refine fin1 (v := .bool (decide ((packB ((takeR l).1)) = l))) (.inr rfl) (.nil) Try.results13 rfl ?_
      exact fun w' hs => ⟨congrArg (fun b => Ending.returned (Value.bool b)) (show (decide ((packB ((takeR l).1)) = l)) = true from (decide_eq_true (pack_take hl (Decidable.not_not.1 (by assumption))))), hs⟩

end Go.Proofs.Ytldkjjnjdjfipaa
