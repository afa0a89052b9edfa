/- The slots of a straight-line program; walked. -/
import Derived.Test.YtldkjjnjdjfipaaWLaw11
import Derived.Test.YtldkjjnjdjfipaaWHlpR
namespace Go.Proofs.Ytldkjjnjdjfipaa
open Go Go.RowKit
set_option linter.unusedVariables false
set_option linter.unusedSimpArgs false
set_option maxRecDepth 10000
set_option maxHeartbeats 1000000

theorem uof {y : Nat} (h : y < 1000) : (UInt64.ofNat y).toNat = y := by
  rw [UInt64.toNat_ofNat']
  omega
/-- the flag and the slot that law 19 emits -/
def slF (al : List Bool) (i : Nat) : Int64 := if al.getD i default = true then Int64.ofNat (i + 1) else 0
def slS (sl : List Int) (z : Nat) (i : Nat) : Int64 := (UInt64.ofNat (u64of (sl.getD i default) % z)).toInt64
theorem slS_int {sl : List Int} {z : Nat} {i : Nat} (h0 : 0 < z) (h1 : z ≤ 4) : 0 ≤ (slS sl z i).toInt ∧ (slS sl z i).toInt < ((z : Nat) : Int) ∧ (slS sl z i).toInt = ((u64of (sl.getD i default) % z : Nat) : Int) := by
  have h2 := Nat.mod_lt (u64of (sl.getD i default)) h0
  unfold slS
  generalize u64of (sl.getD i default) % z = y at *
  have h3 : y = 0 ∨ y = 1 ∨ y = 2 ∨ y = 3 := by omega
  have h4 : (UInt64.ofNat y).toInt64.toInt = ((y : Nat) : Int) := by rcases h3 with h | h | h | h <;> subst h <;> rfl
  rw [h4]
  omega
theorem getD_out {al : List Bool} {i : Nat} (h : al.length ≤ i) : al.getD i default = false := by rw [List.getD_eq_getElem?_getD, List.getElem?_eq_none h]; rfl
theorem slp_step {ps : List Opc} {al : List Bool} {sl : List Int} {z i : Nat} {f : Int64} (h : ps = slotL (slF al) (slS sl z) i) (hf : slF al i = f) : ps ++ [Opc.mk 1 5 0 0 0 f, Opc.mk 12 0 0 1 5 ((UInt64.ofNat (u64of (sl.getD i default) % z)).toInt64)] = slotL (slF al) (slS sl z) (i + 1) := by
  subst h hf
  rw [← slotL_next]
  rfl
theorem ofNat_ne {i : Nat} (h : i < 1000) : ¬ Int64.ofNat (i + 1) = 0 := fun h2 => by
  have h3 := i_lit (i + 1) (by omega)
  rw [h2] at h3
  have h4 : (0 : Int64).toInt = 0 := rfl
  omega
theorem slw_t {ws : List Rec} {N z : Nat} {a b q : Int64} {al : List Bool} {sl : List Int} {i : Nat} (h : ws = slotW N a b q (slF al) (slS sl z) i) (hi : i < 1000) (hf : al.getD i default = true) :
    (ws.set ((UInt64.ofNat (u64of (sl.getD i default) % z)).toInt64).toInt.toNat (Rec.mk true 0 0 0)).set ((UInt64.ofNat (u64of (sl.getD i default) % z)).toInt64).toInt.toNat (Rec.mk false a b (q + (UInt64.ofNat (u64of (sl.getD i default) % z)).toInt64)) = slotW N a b q (slF al) (slS sl z) (i + 1) := by
  subst h
  rw [List.set_set]
  show _ = List.set _ _ _
  unfold slotE emitR slF
  rw [if_pos hf, if_neg (ofNat_ne hi)]
  rfl
theorem slw_f {ws : List Rec} {N z : Nat} {a b q : Int64} {al : List Bool} {sl : List Int} {i : Nat} (h : ws = slotW N a b q (slF al) (slS sl z) i) (hf : al.getD i default = false) :
    ws.set ((UInt64.ofNat (u64of (sl.getD i default) % z)).toInt64).toInt.toNat (Rec.mk true 0 0 0) = slotW N a b q (slF al) (slS sl z) (i + 1) := by
  have h0 : slF al i = 0 := by unfold slF; rw [if_neg (by rw [hf]; decide)]
  have h1 : slotE a b q (slF al) (slS sl z) i = Rec.mk true 0 0 0 := by unfold slotE emitR; rw [if_pos h0]
  subst h
  show _ = List.set _ _ (slotE a b q (slF al) (slS sl z) i)
  rw [h1]
  rfl
theorem slot_fin {z i : Nat} {al : List Bool} {sl : List Int} {u : Int64} (h1 : 1 ≤ z) (h4 : z ≤ 4) (hi : i ≤ 20) : mapC (chkB ((z : Nat) : Int) (slotL (slF al) (slS sl z) i) [] []) ((z : Nat) : Int) (slotL (slF al) (slS sl z) i) u 7 (-8) = slotW z 7 (-8) (u * Int64.ofInt ((z : Nat) : Int)) (slF al) (slS sl z) i := by
  have h2 := slot_ok (k := ((z : Nat) : Int)) (f := slF al) (s := slS sl z) (i := i) (by omega) hi (fun j hj => by have := slS_int (sl := sl) (i := j) h1 h4; omega)
  unfold mapC
  rw [if_pos h2, slot_law, Int.toNat_natCast]
theorem take_all {ys : List Rec} {z i : Nat} (h1 : ys.length = z) (h2 : z ≤ i) (h3 : ys.take i = List.replicate i deadR) : ys = List.replicate z deadR := by
  have h4 := congrArg List.length h3
  rw [List.take_of_length_le (by omega)] at h3
  rw [h3]
  rw [h3, List.length_replicate] at h1
  rw [h1]
theorem take_set {ys : List Rec} {i : Nat} (h1 : i < ys.length) (h3 : ys.take i = List.replicate i deadR) : (ys.set i (Rec.mk true 0 0 0)).take (i + 1) = List.replicate (i + 1) deadR := by
  rw [List.take_succ_eq_append_getElem (by rw [List.length_set]; exact h1), List.take_set_of_le (by omega), h3, List.getElem_set_self, List.replicate_succ']
  rfl

theorem slots_vm (code : Int) (code1 : -9223372036854775808 ≤ code) (code2 : code < 9223372036854775808) (a : Option Addr) (na ca : Nat) (sl : List Int) (d : Option Addr) (nd cd : Nat) (al : List Bool) (nn : Int64) (w : World) (hna : sl.length = na) (hra : Rds w a (sl.flatMap intV)) (hnd : al.length = nd) (hrd : Rds w d (al.flatMap boolV)) : Pure Try.prog 19 #[.int .i64 code, .slice a na ca, .slice d nd cd, .int .i64 (nn.toInt)] w (.bool true) := by
  refine calls_S (n := 101) (σ0 := (upd (upd (upd (upd fr0 0 (.int .i64 code)) 1 (.slice a na ca)) 2 (.slice d nd cd)) 3 (.int .i64 (nn.toInt)))) (D := []) (A := []) Try.func19 rfl Try.ntmps19 rfl (a4_fr _ _ _ _) (SH.start w) ?_
  refine wpS_seq ?_
  refine wpS_region ?_
  refine s_y (v := .bool false) (y_assign rfl) rfl ?_
  refine wpL_nil ?_
  refine thenS_n ?_
  refine wpS_seq ?_
  refine wpS_region ?_
  refine s_y (v := .int .i64 code) (y_move rfl) rfl ?_
  refine s_y (v := .int .u64 ((((u64of code) : Nat) : Int))) (y_convI (a := code) (c := (((u64of code) : Nat) : Int)) rfl Try.underlying3 Try.underlying46 (u64of_wrap _)) rfl ?_
  refine s_y (v := .int .u64 (((((u64of code) % 4) : Nat) : Int))) (y_rem (a := (((u64of code) : Nat) : Int)) (b := 4) (c := ((((u64of code) % 4) : Nat) : Int)) rfl rfl (by omega) (n_rem _ 4 (by omega))) rfl ?_
  refine s_y (v := .int .i64 (((((u64of code) % 4) : Nat) : Int))) (y_convI (a := ((((u64of code) % 4) : Nat) : Int)) (c := ((((u64of code) % 4) : Nat) : Int)) rfl Try.underlying46 Try.underlying3 (wI rfl (by omega) (by omega))) rfl ?_
  refine s_y (v := .int .i64 ((((1 + ((u64of code) % 4)) : Nat) : Int))) (y_add (a := 1) (b := ((((u64of code) % 4) : Nat) : Int)) (c := (((1 + ((u64of code) % 4)) : Nat) : Int)) rfl rfl (wI (by omega) (by omega) (by omega))) rfl ?_
  refine s_y (v := .int .i64 ((((1 + ((u64of code) % 4)) : Nat) : Int))) (y_assign rfl) rfl ?_
  refine wpL_nil ?_
  refine thenS_n ?_
  refine wpS_seq ?_
  refine wpS_seq ?_
  refine wpS_region ?_
  refine s_y (v := .slice a na ca) (y_move rfl) rfl ?_
  refine s_y (v := .int .i64 (((na : Nat) : Int))) (y_len (ty' := 0) (at_ := #[]) rfl Try.underlying39) rfl ?_
  refine s_y (v := .bool (decide ((20 : Nat) < na))) (y_gtr (a := ((na : Nat) : Int)) (b := 20) (c := decide ((20 : Nat) < na)) rfl rfl (decide_eq_decide.2 (by omega))) rfl ?_
  refine wpL_nil ?_
  refine thenS_n ?_
  refine wpS_cond (t := decide ((20 : Nat) < na)) rfl (fun b1 => ?_) (fun b1 => ?_)
  · -- decide ((20 : Nat) < na) true
    have p1 := of_decide_eq_true b1
    refine wpS_seq ?_
    refine wpS_region ?_
    refine s_y (v := .bool true) (y_call (args := #[]) (v := .bool true) Try.call82 ev0 (fun w hs => awake11_c w)) rfl ?_
    refine s_y (v := .bool true) (y_assign rfl) rfl ?_
    refine wpL_nil ?_
    refine thenS_n ?_
    refine wpS_ret ?_
    refine thenS_r ?_
    refine fin1 (v := .bool true) (.inr rfl) (.nil) Try.results19 rfl ?_
    exact fun w' hs => ⟨rfl, hs⟩
  · -- decide ((20 : Nat) < na) false
    have p1 := of_decide_eq_false b1
    refine wpS_skip ?_
    refine thenS_n ?_
    refine wpS_seq ?_
    refine wpS_region ?_
    refine s_y (v := .int .i64 (nn.toInt)) (y_move rfl) rfl ?_
    refine s_y (v := .int .i64 (((nn &&& 1023)).toInt)) (y_and (a := nn.toInt) (b := 1023) (c := ((nn &&& 1023)).toInt) rfl rfl (i_and nn 1023)) rfl ?_
    refine s_y (v := .int .i64 (((nn &&& 1023)).toInt)) (y_assign rfl) rfl ?_
    refine wpL_nil ?_
    refine thenS_n ?_
    refine wpS_seq ?_
    refine wpS_region ?_
    refine s_y (v := .int .i64 ((((1 + ((u64of code) % 4)) : Nat) : Int))) (y_move rfl) rfl ?_
    refine s_y (v := .agg #[.int .i64 ((((1 + ((u64of code) % 4)) : Nat) : Int)), .slice none 0 0, .slice none 0 0, .slice none 0 0]) (y_buildL (m := [(0, .int .i64 ((((1 + ((u64of code) % 4)) : Nat) : Int)))]) (vs := #[.int .i64 ((((1 + ((u64of code) % 4)) : Nat) : Int)), .slice none 0 0, .slice none 0 0, .slice none 0 0]) (evc rfl evn) (fun w => by kernel_rfl)) rfl ?_
    refine s_e rfl ?_
    refine e_alloc (l := [.int .i64 0, .slice none 0 0, .slice none 0 0, .slice none 0 0]) Try.zeroValue84 rfl ?_
    intro b_2
    refine s_e0 ?_
    refine e_store (vs := [.int .i64 ((((1 + ((u64of code) % 4)) : Nat) : Int)), .slice none 0 0, .slice none 0 0, .slice none 0 0]) (l' := [.int .i64 ((((1 + ((u64of code) % 4)) : Nat) : Int)), .slice none 0 0, .slice none 0 0, .slice none 0 0]) rfl rfl rfl rfl Try.sizeOf84 .h (Nat.le_of_ble_eq_true rfl) rfl ?_
    refine wpL_nil ?_
    refine thenS_n ?_
    refine wpS_seq ?_
    refine wpS_region ?_
    refine s_y (v := .int .i64 ((((1 + ((u64of code) % 4)) : Nat) : Int))) (y_move rfl) rfl ?_
    refine s_e rfl ?_
    refine e_make (enc := recV) (y0 := (Rec.mk false 0 0 0)) (m := (1 + ((u64of code) % 4))) (c := (1 + ((u64of code) % 4))) (bytes := 32) recV_len (by decide) Try.underlying69 (i := Try.t23) rfl rfl rfl rfl rfl rfl rfl (by omega) (by omega) (by omega) ?_
    intro b_3
    refine s_y (v := .slice (some ⟨b_3, 0, none⟩) (1 + ((u64of code) % 4)) (1 + ((u64of code) % 4))) (y_assign rfl) rfl ?_
    refine wpL_nil ?_
    refine thenS_n ?_
    refine wpS_seq ?_
    refine wpS_seq ?_
    refine wpS_region ?_
    refine s_y (v := .slice (some ⟨b_3, 0, none⟩) (1 + ((u64of code) % 4)) (1 + ((u64of code) % 4))) (y_move rfl) rfl ?_
    refine s_y (v := .int .i64 ((((1 + ((u64of code) % 4)) : Nat) : Int))) (y_len (ty' := 0) (at_ := #[]) rfl Try.underlying69) rfl ?_
    refine s_y (v := .int .i64 0) (y_move rfl) rfl ?_
    refine wpL_nil ?_
    refine thenS_n ?_
    refine wpS_block ?_
    have hwl0 : (List.replicate (1 + u64of code % 4) (Rec.mk false 0 0 0)).length = (1 + u64of code % 4) := List.length_replicate
    refine wpS_loop (fun mez ds σ L => ∃ i0 : Nat, ∃ ys : List Rec, mez = (1 + u64of code % 4) - i0 ∧ (i0 ≤ (1 + u64of code % 4)) ∧ (ys.length = (1 + u64of code % 4)) ∧ (ys.take i0 = List.replicate i0 deadR) ∧ ds = [] ∧ σ 0 = .int .i64 ((((1 + ((u64of code) % 4)) : Nat) : Int)) ∧ σ 1 = .slice a na ca ∧ σ 2 = .slice d nd cd ∧ σ 3 = .int .i64 (((nn &&& 1023)).toInt) ∧ σ 9 = .pointer (some ⟨b_2, 0, none⟩) ∧ σ 10 = .slice (some ⟨b_3, 0, none⟩) (1 + ((u64of code) % 4)) (1 + ((u64of code) % 4)) ∧ σ 32 = .int .i64 ((((1 + ((u64of code) % 4)) : Nat) : Int)) ∧ σ 33 = .int .i64 (((i0 : Nat) : Int)) ∧ Ent L [osl (some ⟨b_3, 0, none⟩) (1 + ((u64of code) % 4)) (1 + ((u64of code) % 4)) 4 23 (ys.flatMap recV), cel b_2 84 [.int .i64 ((((1 + ((u64of code) % 4)) : Nat) : Int)), .slice none 0 0, .slice none 0 0, .slice none 0 0]]) (m0 := (1 + u64of code % 4) - 0) ⟨0, (List.replicate (1 + ((u64of code) % 4)) (Rec.mk false 0 0 0)), rfl, by omega, (by rw [List.length_replicate]), (by simp), rfl, rfl, rfl, rfl, rfl, rfl, rfl, rfl, rfl, .p .h (.p .h .nil)⟩ ?_
    rintro mez ds σ L ⟨i0, ys, hm_4, hf0_4, hf1_4, hf2_4, rfl, h0_4, h1_4, h2_4, h3_4, h9_4, h10_4, h32_4, h33_4, hE_4⟩
    refine wpS_ent hE_4 ?_; clear hE_4
    refine wpS_seq ?_
    refine wpS_region ?_
    refine s_y (v := .bool (decide (i0 < (1 + ((u64of code) % 4))))) (y_lss (a := ((i0 : Nat) : Int)) (b := (((1 + ((u64of code) % 4)) : Nat) : Int)) (c := decide (i0 < (1 + ((u64of code) % 4)))) h33_4 h32_4 (decide_eq_decide.2 (by omega))) rfl ?_
    refine wpL_nil ?_
    refine thenS_n ?_
    refine wpS_seq ?_
    refine wpS_cond (t := decide (i0 < (1 + ((u64of code) % 4)))) rfl (fun b5 => ?_) (fun b5 => ?_)
    · -- decide (i0 < (1 + ((u64of code) % 4))) true
      have p5 := of_decide_eq_true b5
      refine wpS_skip ?_
      refine thenS_n ?_
      refine wpS_seq ?_
      refine wpS_block ?_
      refine wpS_seq ?_
      refine wpS_region ?_
      refine s_y (v := .int .i64 (((i0 : Nat) : Int))) (y_move h33_4) rfl ?_
      refine s_y (v := .int .i64 (((i0 : Nat) : Int))) (y_assign rfl) rfl ?_
      refine wpL_nil ?_
      refine thenS_n ?_
      refine wpS_region ?_
      refine s_y (v := .slice (some ⟨b_3, 0, none⟩) (1 + ((u64of code) % 4)) (1 + ((u64of code) % 4))) (y_move h10_4) rfl ?_
      refine s_y (v := .int .i64 (((i0 : Nat) : Int))) (y_move rfl) rfl ?_
      refine s_y (v := .agg #[.bool true, .int .i64 0, .int .i64 0, .int .i64 0]) (y_buildL (m := [(0, .bool true)]) (vs := #[.bool true, .int .i64 0, .int .i64 0, .int .i64 0]) (evc rfl evn) (fun w => by kernel_rfl)) rfl ?_
      refine s_y (v := .pointer (some ⟨aB (some ⟨b_3, 0, none⟩), aO (some ⟨b_3, 0, none⟩) + i0 * 4, none⟩)) (y_idx (o := i0 * 4) rfl rfl Try.underlying69 Try.sizeOf23 (oslR .h) ((fl_len recV_len _).trans (by first | omega | (simp only [List.length_set, List.length_take, List.length_drop]; done) | (simp only [List.length_set, List.length_take, List.length_drop]; omega))) (by decide) (by omega) (by omega) (by omega)) rfl ?_
      refine s_e0 ?_
      refine e_storeL (enc := recV) (xs := ys) (y := (Rec.mk true 0 0 0)) recV_len recV_one (by decide) rfl rfl rfl Try.sizeOf23 .h (by (try simp only [List.length_set]); omega) ?_
      refine wpL_nil ?_
      refine blockS_n ?_
      refine thenS_n ?_
      refine wpS_region ?_
      refine s_y (v := .int .i64 ((((i0 + 1) : Nat) : Int))) (y_add (a := ((i0 : Nat) : Int)) (b := 1) (c := (((i0 + 1) : Nat) : Int)) h33_4 rfl (wI (by omega) (by omega) (by omega))) rfl ?_
      refine s_y (v := .int .i64 ((((i0 + 1) : Nat) : Int))) (y_move rfl) rfl ?_
      refine wpL_nil ?_
      refine thenS_n ?_
      exact ⟨_, by omega, ⟨(i0 + 1), (ys.set i0 (Rec.mk true 0 0 0)), rfl, by omega, (by rw [List.length_set]; omega), (take_set (by omega) (by assumption)), rfl, h0_4, h1_4, h2_4, h3_4, h9_4, h10_4, h32_4, rfl, .p .h (.p .h .nil)⟩⟩
    · -- decide (i0 < (1 + ((u64of code) % 4))) false
      have p5 := of_decide_eq_false b5
      refine wpS_exit ?_
      refine thenS_x ?_
      refine thenS_x ?_
      refine blockS_h ?_
      refine thenS_n ?_
      refine wpS_seq ?_
      refine wpS_seq ?_
      refine wpS_region ?_
      refine s_y (v := .int .i64 0) (y_assign rfl) rfl ?_
      refine wpL_nil ?_
      refine thenS_n ?_
      refine wpS_block ?_
      refine wpS_nil0 6 86 ?_
      have hws0 : ys = List.replicate (1 + u64of code % 4) deadR := take_all (i := i0) (by omega) (by omega) (by assumption)
      refine wpS_loop (fun mez ds σ L => ∃ i : Nat, ∃ ps : List Opc, ∃ ws : List Rec, ∃ a1 : Option Addr, ∃ c1 : Nat, mez = na - i ∧ (i ≤ na) ∧ (ps.length ≤ 2 * i) ∧ (ws.length = (1 + u64of code % 4)) ∧ (ps = slotL (slF al) (slS sl (1 + u64of code % 4)) i) ∧ (ws = slotW (1 + u64of code % 4) 7 (-8) ((nn &&& 1023) * Int64.ofInt (((1 + u64of code % 4) : Nat) : Int)) (slF al) (slS sl (1 + u64of code % 4)) i) ∧ ds = [] ∧ σ 0 = .int .i64 ((((1 + ((u64of code) % 4)) : Nat) : Int)) ∧ σ 1 = .slice a na ca ∧ σ 2 = .slice d nd cd ∧ σ 3 = .int .i64 (((nn &&& 1023)).toInt) ∧ σ 9 = .pointer (some ⟨b_2, 0, none⟩) ∧ σ 10 = .slice (some ⟨b_3, 0, none⟩) (1 + ((u64of code) % 4)) (1 + ((u64of code) % 4)) ∧ σ 12 = .int .i64 (((i : Nat) : Int)) ∧ Ent L [osl a1 c1 ps.length 6 86 (ps.flatMap opcV), osl (some ⟨b_3, 0, none⟩) (1 + ((u64of code) % 4)) (1 + ((u64of code) % 4)) 4 23 (ws.flatMap recV), cel b_2 84 [.int .i64 ((((1 + ((u64of code) % 4)) : Nat) : Int)), .slice a1 ps.length c1, .slice none 0 0, .slice none 0 0]]) (m0 := na - 0) ⟨0, [], ys, none, 0, rfl, by omega, by simp, by omega, rfl, hws0, rfl, h0_4, h1_4, h2_4, h3_4, h9_4, h10_4, rfl, .p .h (.p .h (.p .h .nil))⟩ ?_
      rintro mez ds σ L ⟨i, ps, ws, a1, c1, hm_6, hf0_6, hf1_6, hf2_6, hf3_6, hf4_6, rfl, h0_6, h1_6, h2_6, h3_6, h9_6, h10_6, h12_6, hE_6⟩
      refine wpS_ent hE_6 ?_; clear hE_6
      have hsi := slS_int (sl := sl) (z := (1 + u64of code % 4)) (i := i) (by omega) (by omega)
      unfold slS at hsi
      refine wpS_seq ?_
      refine wpS_seq ?_
      refine wpS_region ?_
      refine s_y (v := .int .i64 (((i : Nat) : Int))) (y_move h12_6) rfl ?_
      refine s_y (v := .slice a na ca) (y_move h1_6) rfl ?_
      refine s_y (v := .int .i64 (((na : Nat) : Int))) (y_len (ty' := 0) (at_ := #[]) rfl Try.underlying39) rfl ?_
      refine s_y (v := .bool (decide (i < na))) (y_lss (a := ((i : Nat) : Int)) (b := ((na : Nat) : Int)) (c := decide (i < na)) rfl rfl (decide_eq_decide.2 (by omega))) rfl ?_
      refine wpL_nil ?_
      refine thenS_n ?_
      refine wpS_cond (t := decide (i < na)) rfl (fun b7 => ?_) (fun b7 => ?_)
      · -- decide (i < na) true
        have p7 := of_decide_eq_true b7
        refine wpS_skip ?_
        refine thenS_n ?_
        refine wpS_seq ?_
        refine wpS_block ?_
        refine wpS_seq ?_
        refine wpS_region ?_
        refine s_y (v := .slice a na ca) (y_move h1_6) rfl ?_
        refine s_y (v := .int .i64 (((i : Nat) : Int))) (y_move h12_6) rfl ?_
        refine s_y (v := .pointer (some ⟨aB a, aO a + i * 1, none⟩)) (y_idx (o := i * 1) rfl rfl Try.underlying39 Try.sizeOf3 (oldR hra) ((fl_len intV_len _).trans (by first | omega | (simp only [List.length_set, List.length_take, List.length_drop]; done) | (simp only [List.length_set, List.length_take, List.length_drop]; omega))) (by decide) (by omega) (by omega) (by omega)) rfl ?_
        refine s_y (v := .int .i64 ((sl.getD i default))) (y_load1 (v := .int .i64 ((sl.getD i default))) rfl Try.isAgg3 (rd1 (k := i * 1) (oldR hra) (fl_get0 intV_len sl i (by first | omega | (simp only [List.length_set, List.length_take, List.length_drop]; done) | (simp only [List.length_set, List.length_take, List.length_drop]; omega)) rfl))) rfl ?_
        refine s_y (v := .int .u64 ((((u64of (sl.getD i default)) : Nat) : Int))) (y_convI (a := (sl.getD i default)) (c := (((u64of (sl.getD i default)) : Nat) : Int)) rfl Try.underlying3 Try.underlying46 (u64of_wrap _)) rfl ?_
        refine s_y (v := .int .i64 ((((1 + ((u64of code) % 4)) : Nat) : Int))) (y_move h0_6) rfl ?_
        refine s_y (v := .int .u64 ((((1 + ((u64of code) % 4)) : Nat) : Int))) (y_convI (a := (((1 + ((u64of code) % 4)) : Nat) : Int)) (c := (((1 + ((u64of code) % 4)) : Nat) : Int)) rfl Try.underlying3 Try.underlying46 (wU rfl (by omega) (by omega))) rfl ?_
        refine s_y (v := .int .u64 (((UInt64.ofNat (u64of (sl.getD i default) % (1 + u64of code % 4)))).toNat)) (y_rem (a := (((u64of (sl.getD i default)) : Nat) : Int)) (b := (((1 + ((u64of code) % 4)) : Nat) : Int)) (c := ((UInt64.ofNat (u64of (sl.getD i default) % (1 + u64of code % 4)))).toNat) rfl rfl (by omega) ((n_rem _ (1 + u64of code % 4) (by omega)).trans (congrArg (Nat.cast : Nat → Int) (uof (Nat.lt_trans (Nat.mod_lt _ (by omega)) (show _ < 1000 by omega))).symm))) rfl ?_
        refine s_y (v := .int .i64 (((UInt64.ofNat (u64of (sl.getD i default) % (1 + u64of code % 4))).toInt64).toInt)) (y_convI (a := ((UInt64.ofNat (u64of (sl.getD i default) % (1 + u64of code % 4)))).toNat) (c := ((UInt64.ofNat (u64of (sl.getD i default) % (1 + u64of code % 4))).toInt64).toInt) rfl Try.underlying46 Try.underlying3 (ui_conv _)) rfl ?_
        refine s_y (v := .int .i64 (((UInt64.ofNat (u64of (sl.getD i default) % (1 + u64of code % 4))).toInt64).toInt)) (y_assign rfl) rfl ?_
        refine wpL_nil ?_
        refine thenS_n ?_
        refine wpS_seq ?_
        refine wpS_region ?_
        refine s_y (v := .int .i64 (((i : Nat) : Int))) (y_move h12_6) rfl ?_
        refine s_y (v := .slice d nd cd) (y_move h2_6) rfl ?_
        refine s_y (v := .int .i64 (((nd : Nat) : Int))) (y_len (ty' := 0) (at_ := #[]) rfl Try.underlying50) rfl ?_
        refine s_y (v := .bool (decide (i < nd))) (y_lss (a := ((i : Nat) : Int)) (b := ((nd : Nat) : Int)) (c := decide (i < nd)) rfl rfl (decide_eq_decide.2 (by omega))) rfl ?_
        refine s_y (v := .bool (decide (i < nd))) (y_move rfl) rfl ?_
        rcases Bool.eq_false_or_eq_true (decide (i < nd)) with b8 | b8
        · -- decide (i < nd) True
          have p8 := of_decide_eq_true b8
          refine s_gy (y_move h2_6) rfl rfl rfl rfl (b' := decide (i < nd)) rfl b8 ?_
          refine s_gy (y_move h12_6) rfl rfl rfl rfl (b' := decide (i < nd)) rfl b8 ?_
          refine s_gy (y_idx (o := i * 1) rfl rfl Try.underlying50 Try.sizeOf4 (oldR hrd) ((fl_len boolV_len _).trans (by first | omega | (simp only [List.length_set, List.length_take, List.length_drop]; done) | (simp only [List.length_set, List.length_take, List.length_drop]; omega))) (by decide) (by omega) (by omega) (by omega)) rfl rfl rfl rfl (b' := decide (i < nd)) rfl b8 ?_
          refine s_gy (y_load1 (v := .bool ((al.getD i default))) rfl Try.isAgg4 (rd1 (k := i * 1) (oldR hrd) (fl_get0 boolV_len al i (by first | omega | (simp only [List.length_set, List.length_take, List.length_drop]; done) | (simp only [List.length_set, List.length_take, List.length_drop]; omega)) rfl))) rfl rfl rfl rfl (b' := decide (i < nd)) rfl b8 ?_
          refine s_y (v := .bool ((al.getD i default))) (y_pickT (b := decide (i < nd)) (v := .bool ((al.getD i default))) rfl b8 rfl) rfl ?_
          refine s_y (v := .bool ((al.getD i default))) (y_assign rfl) rfl ?_
          refine wpL_nil ?_
          refine thenS_n ?_
          refine wpS_seq ?_
          refine wpS_region ?_
          refine s_y (v := .int .i64 0) (y_assign rfl) rfl ?_
          refine wpL_nil ?_
          refine thenS_n ?_
          refine wpS_seq ?_
          refine wpS_seq ?_
          refine wpS_region ?_
          refine s_y (v := .bool ((al.getD i default))) (y_move rfl) rfl ?_
          refine wpL_nil ?_
          refine thenS_n ?_
          refine wpS_cond (t := (al.getD i default)) rfl (fun b9 => ?_) (fun b9 => ?_)
          · -- (al.getD i default) true
            refine wpS_region ?_
            refine s_y (v := .int .i64 (((i : Nat) : Int))) (y_move h12_6) rfl ?_
            refine s_y (v := .int .i64 (((Int64.ofNat (i + 1))).toInt)) (y_add (a := ((i : Nat) : Int)) (b := 1) (c := ((Int64.ofNat (i + 1))).toInt) rfl rfl ((wI (c := (((i + 1 : Nat) : Nat) : Int)) (by omega) (by omega) (by omega)).trans (i_lit (i + 1) (by omega)).symm)) rfl ?_
            refine s_y (v := .int .i64 (((Int64.ofNat (i + 1))).toInt)) (y_assign rfl) rfl ?_
            refine wpL_nil ?_
            refine thenS_n ?_
            refine wpS_seq ?_
            refine wpS_region ?_
            refine s_y (v := .pointer (some ⟨b_2, 1, none⟩)) (y_fieldAddr (o' := 1) h9_6 Try.underlying84 rfl Try.sizeOf82 (by decide) rfl) rfl ?_
            refine s_y (v := .slice a1 ps.length c1) (y_load1 rfl Try.isAgg82 (own1 (.t (.t .h)) rfl)) rfl ?_
            refine s_y (v := .int .i64 (((Int64.ofNat (i + 1))).toInt)) (y_move rfl) rfl ?_
            refine s_y (v := .agg #[.int .i64 1, .int .i64 5, .int .i64 0, .int .i64 0, .int .i64 0, .int .i64 (((Int64.ofNat (i + 1))).toInt)]) (y_buildL (m := [(0, .int .i64 1), (1, .int .i64 5), (5, .int .i64 (((Int64.ofNat (i + 1))).toInt))]) (vs := #[.int .i64 1, .int .i64 5, .int .i64 0, .int .i64 0, .int .i64 0, .int .i64 (((Int64.ofNat (i + 1))).toInt)]) (evc rfl (evc rfl (evc rfl evn))) (fun w => by kernel_rfl)) rfl ?_
            refine s_y (v := .int .i64 (((UInt64.ofNat (u64of (sl.getD i default) % (1 + u64of code % 4))).toInt64).toInt)) (y_move rfl) rfl ?_
            refine s_y (v := .agg #[.int .i64 12, .int .i64 0, .int .i64 0, .int .i64 1, .int .i64 5, .int .i64 (((UInt64.ofNat (u64of (sl.getD i default) % (1 + u64of code % 4))).toInt64).toInt)]) (y_buildL (m := [(0, .int .i64 12), (2, .int .i64 0), (3, .int .i64 1), (4, .int .i64 5), (5, .int .i64 (((UInt64.ofNat (u64of (sl.getD i default) % (1 + u64of code % 4))).toInt64).toInt))]) (vs := #[.int .i64 12, .int .i64 0, .int .i64 0, .int .i64 1, .int .i64 5, .int .i64 (((UInt64.ofNat (u64of (sl.getD i default) % (1 + u64of code % 4))).toInt64).toInt)]) (evc rfl (evc rfl (evc rfl (evc rfl (evc rfl evn))))) (fun w => by kernel_rfl)) rfl ?_
            refine s_e rfl ?_
            refine e_bsliceL (e := 86) (m := [(0, .agg #[.int .i64 1, .int .i64 5, .int .i64 0, .int .i64 0, .int .i64 0, .int .i64 (((Int64.ofNat (i + 1))).toInt)]), (1, .agg #[.int .i64 12, .int .i64 0, .int .i64 0, .int .i64 1, .int .i64 5, .int .i64 (((UInt64.ofNat (u64of (sl.getD i default) % (1 + u64of code % 4))).toInt64).toInt)])]) (l := [.int .i64 1, .int .i64 5, .int .i64 0, .int .i64 0, .int .i64 0, .int .i64 (((Int64.ofNat (i + 1))).toInt), .int .i64 12, .int .i64 0, .int .i64 0, .int .i64 1, .int .i64 5, .int .i64 (((UInt64.ofNat (u64of (sl.getD i default) % (1 + u64of code % 4))).toInt64).toInt)]) (evc rfl (evc rfl evn)) (fun w => by kernel_rfl) ?_
            intro b_10
            refine s_e rfl ?_
            refine e_appendL (enc := opcV) (xs := (ps : List Opc)) (ns := ([(Opc.mk 1 5 0 0 0 (Int64.ofNat (i + 1))), (Opc.mk 12 0 0 1 5 ((UInt64.ofNat (u64of (sl.getD i default) % (1 + u64of code % 4))).toInt64))] : List Opc)) (zs := (ps ++ [(Opc.mk 1 5 0 0 0 (Int64.ofNat (i + 1))), (Opc.mk 12 0 0 1 5 ((UInt64.ofNat (u64of (sl.getD i default) % (1 + u64of code % 4))).toInt64))])) (bytes := 48) opcV_len opcV_one Try.underlying82 (i := Try.t86) rfl rfl rfl rfl rfl (by decide) rfl rfl (by first | rfl | omega) (by first | rfl | omega) (.t .h) (fun w hs => celR .h w hs) (by first | rfl | simp) (by (try simp only [List.length_append, List.length_cons, List.length_nil] at *); omega) (by (try simp only [List.length_append, List.length_cons, List.length_nil] at *); omega) ?_
            intro a_11 c_12
            refine s_y (v := .pointer (some ⟨b_2, 1, none⟩)) (y_fieldAddr (o' := 1) h9_6 Try.underlying84 rfl Try.sizeOf82 (by decide) rfl) rfl ?_
            refine s_e0 ?_
            refine e_store (vs := [.slice a_11 ((ps ++ [(Opc.mk 1 5 0 0 0 (Int64.ofNat (i + 1))), (Opc.mk 12 0 0 1 5 ((UInt64.ofNat (u64of (sl.getD i default) % (1 + u64of code % 4))).toInt64))]).length) c_12]) (l' := [.int .i64 ((((1 + ((u64of code) % 4)) : Nat) : Int)), .slice a_11 ((ps ++ [(Opc.mk 1 5 0 0 0 (Int64.ofNat (i + 1))), (Opc.mk 12 0 0 1 5 ((UInt64.ofNat (u64of (sl.getD i default) % (1 + u64of code % 4))).toInt64))]).length) c_12, .slice none 0 0, .slice none 0 0]) rfl rfl rfl rfl Try.sizeOf82 (.t (.t (.t .h))) (Nat.le_of_ble_eq_true rfl) rfl ?_
            refine wpL_nil ?_
            refine thenS_n ?_
            refine wpS_seq ?_
            refine wpS_region ?_
            refine s_y (v := .slice (some ⟨b_3, 0, none⟩) (1 + ((u64of code) % 4)) (1 + ((u64of code) % 4))) (y_move h10_6) rfl ?_
            refine s_y (v := .int .i64 (((UInt64.ofNat (u64of (sl.getD i default) % (1 + u64of code % 4))).toInt64).toInt)) (y_move rfl) rfl ?_
            refine s_y (v := .agg #[.bool true, .int .i64 0, .int .i64 0, .int .i64 0]) (y_buildL (m := [(0, .bool true)]) (vs := #[.bool true, .int .i64 0, .int .i64 0, .int .i64 0]) (evc rfl evn) (fun w => by kernel_rfl)) rfl ?_
            refine s_y (v := .pointer (some ⟨aB (some ⟨b_3, 0, none⟩), aO (some ⟨b_3, 0, none⟩) + ((((UInt64.ofNat (u64of (sl.getD i default) % (1 + u64of code % 4))).toInt64).toInt).toNat) * 4, none⟩)) (y_idx (o := ((((UInt64.ofNat (u64of (sl.getD i default) % (1 + u64of code % 4))).toInt64).toInt).toNat) * 4) rfl rfl Try.underlying69 Try.sizeOf23 (oslR (.t (.t (.t .h)))) ((fl_len recV_len _).trans (by first | omega | (simp only [List.length_set, List.length_take, List.length_drop]; done) | (simp only [List.length_set, List.length_take, List.length_drop]; omega))) (by decide) (by omega) (by omega) (by omega)) rfl ?_
            refine s_e0 ?_
            refine e_storeL (enc := recV) (xs := ws) (y := (Rec.mk true 0 0 0)) recV_len recV_one (by decide) rfl rfl rfl Try.sizeOf23 (.t (.t (.t .h))) (by (try simp only [List.length_set]); omega) ?_
            refine wpL_nil ?_
            refine thenS_n ?_
            refine wpS_seq ?_
            refine wpS_region ?_
            refine s_y (v := .bool ((al.getD i default))) (y_move rfl) rfl ?_
            refine wpL_nil ?_
            refine thenS_n ?_
            refine wpS_cond_T (t := (al.getD i default)) rfl b9 ?_
            refine wpS_region ?_
            refine s_y (v := .slice (some ⟨b_3, 0, none⟩) (1 + ((u64of code) % 4)) (1 + ((u64of code) % 4))) (y_move h10_6) rfl ?_
            refine s_y (v := .int .i64 (((UInt64.ofNat (u64of (sl.getD i default) % (1 + u64of code % 4))).toInt64).toInt)) (y_move rfl) rfl ?_
            refine s_y (v := .int .i64 (((nn &&& 1023)).toInt)) (y_move h3_6) rfl ?_
            refine s_y (v := .int .i64 ((((1 + ((u64of code) % 4)) : Nat) : Int))) (y_move h0_6) rfl ?_
            refine s_y (v := .int .i64 ((((nn &&& 1023) * Int64.ofInt (((1 + u64of code % 4) : Nat) : Int))).toInt)) (y_mul (a := ((nn &&& 1023)).toInt) (b := (((1 + ((u64of code) % 4)) : Nat) : Int)) (c := (((nn &&& 1023) * Int64.ofInt (((1 + u64of code % 4) : Nat) : Int))).toInt) rfl rfl (i_mulZ (by omega) (by omega))) rfl ?_
            refine s_y (v := .int .i64 (((UInt64.ofNat (u64of (sl.getD i default) % (1 + u64of code % 4))).toInt64).toInt)) (y_move rfl) rfl ?_
            refine s_y (v := .int .i64 (((((nn &&& 1023) * Int64.ofInt (((1 + u64of code % 4) : Nat) : Int)) + ((UInt64.ofNat (u64of (sl.getD i default) % (1 + u64of code % 4))).toInt64))).toInt)) (y_add (a := (((nn &&& 1023) * Int64.ofInt (((1 + u64of code % 4) : Nat) : Int))).toInt) (b := ((UInt64.ofNat (u64of (sl.getD i default) % (1 + u64of code % 4))).toInt64).toInt) (c := ((((nn &&& 1023) * Int64.ofInt (((1 + u64of code % 4) : Nat) : Int)) + ((UInt64.ofNat (u64of (sl.getD i default) % (1 + u64of code % 4))).toInt64))).toInt) rfl rfl (i_add _ _)) rfl ?_
            refine s_y (v := .agg #[.bool false, .int .i64 7, .int .i64 (-8), .int .i64 (((((nn &&& 1023) * Int64.ofInt (((1 + u64of code % 4) : Nat) : Int)) + ((UInt64.ofNat (u64of (sl.getD i default) % (1 + u64of code % 4))).toInt64))).toInt)]) (y_buildL (m := [(1, .int .i64 7), (2, .int .i64 (-8)), (3, .int .i64 (((((nn &&& 1023) * Int64.ofInt (((1 + u64of code % 4) : Nat) : Int)) + ((UInt64.ofNat (u64of (sl.getD i default) % (1 + u64of code % 4))).toInt64))).toInt))]) (vs := #[.bool false, .int .i64 7, .int .i64 (-8), .int .i64 (((((nn &&& 1023) * Int64.ofInt (((1 + u64of code % 4) : Nat) : Int)) + ((UInt64.ofNat (u64of (sl.getD i default) % (1 + u64of code % 4))).toInt64))).toInt)]) (evc rfl (evc rfl (evc rfl evn))) (fun w => by kernel_rfl)) rfl ?_
            refine s_y (v := .pointer (some ⟨aB (some ⟨b_3, 0, none⟩), aO (some ⟨b_3, 0, none⟩) + ((((UInt64.ofNat (u64of (sl.getD i default) % (1 + u64of code % 4))).toInt64).toInt).toNat) * 4, none⟩)) (y_idx (o := ((((UInt64.ofNat (u64of (sl.getD i default) % (1 + u64of code % 4))).toInt64).toInt).toNat) * 4) rfl rfl Try.underlying69 Try.sizeOf23 (oslR .h) ((fl_len recV_len _).trans (by first | omega | (simp only [List.length_set, List.length_take, List.length_drop]; done) | (simp only [List.length_set, List.length_take, List.length_drop]; omega))) (by decide) (by omega) (by omega) (by omega)) rfl ?_
            refine s_e0 ?_
            refine e_storeL (enc := recV) (xs := (ws.set ((((UInt64.ofNat (u64of (sl.getD i default) % (1 + u64of code % 4))).toInt64).toInt).toNat) (Rec.mk true 0 0 0))) (y := (Rec.mk false 7 (-8) (((nn &&& 1023) * Int64.ofInt (((1 + u64of code % 4) : Nat) : Int)) + ((UInt64.ofNat (u64of (sl.getD i default) % (1 + u64of code % 4))).toInt64)))) recV_len recV_one (by decide) rfl rfl rfl Try.sizeOf23 .h (by (try simp only [List.length_set]); omega) ?_
            refine wpL_nil ?_
            refine blockS_n ?_
            refine thenS_n ?_
            refine wpS_region ?_
            refine s_y (v := .int .i64 (((i : Nat) : Int))) (y_move h12_6) rfl ?_
            refine s_y (v := .int .i64 ((((i + 1) : Nat) : Int))) (y_add (a := ((i : Nat) : Int)) (b := 1) (c := (((i + 1) : Nat) : Int)) rfl rfl (wI (by omega) (by omega) (by omega))) rfl ?_
            refine s_y (v := .int .i64 ((((i + 1) : Nat) : Int))) (y_assign rfl) rfl ?_
            refine wpL_nil ?_
            refine thenS_n ?_
            exact ⟨_, by omega, ⟨(i + 1), (ps ++ [(Opc.mk 1 5 0 0 0 (Int64.ofNat (i + 1))), (Opc.mk 12 0 0 1 5 ((UInt64.ofNat (u64of (sl.getD i default) % (1 + u64of code % 4))).toInt64))]), ((ws.set ((((UInt64.ofNat (u64of (sl.getD i default) % (1 + u64of code % 4))).toInt64).toInt).toNat) (Rec.mk true 0 0 0)).set ((((UInt64.ofNat (u64of (sl.getD i default) % (1 + u64of code % 4))).toInt64).toInt).toNat) (Rec.mk false 7 (-8) (((nn &&& 1023) * Int64.ofInt (((1 + u64of code % 4) : Nat) : Int)) + ((UInt64.ofNat (u64of (sl.getD i default) % (1 + u64of code % 4))).toInt64)))), a_11, c_12, rfl, by omega, (by simp only [List.length_append, List.length_cons, List.length_nil]; omega), (by simp only [List.length_set]; omega), (slp_step (by assumption) (by first | (unfold slF; rw [if_pos (by assumption)]) | (unfold slF; rw [if_neg (by first | (rw [(by assumption : al.getD i default = false)]; decide) | (rw [getD_out (by omega)]; decide))]))), (by first | exact slw_t (by assumption) (by omega) (by assumption) | exact slw_f (by assumption) (by first | assumption | exact getD_out (by omega))), rfl, h0_6, h1_6, h2_6, h3_6, h9_6, h10_6, rfl, .p (.t (.t .h)) (.p .h (.p .h .nil))⟩⟩
          · -- (al.getD i default) false
            refine wpS_skip ?_
            refine thenS_n ?_
            refine wpS_seq ?_
            refine wpS_region ?_
            refine s_y (v := .pointer (some ⟨b_2, 1, none⟩)) (y_fieldAddr (o' := 1) h9_6 Try.underlying84 rfl Try.sizeOf82 (by decide) rfl) rfl ?_
            refine s_y (v := .slice a1 ps.length c1) (y_load1 rfl Try.isAgg82 (own1 (.t (.t .h)) rfl)) rfl ?_
            refine s_y (v := .int .i64 0) (y_move rfl) rfl ?_
            refine s_y (v := .agg #[.int .i64 1, .int .i64 5, .int .i64 0, .int .i64 0, .int .i64 0, .int .i64 0]) (y_buildL (m := [(0, .int .i64 1), (1, .int .i64 5), (5, .int .i64 0)]) (vs := #[.int .i64 1, .int .i64 5, .int .i64 0, .int .i64 0, .int .i64 0, .int .i64 0]) (evc rfl (evc rfl (evc rfl evn))) (fun w => by kernel_rfl)) rfl ?_
            refine s_y (v := .int .i64 (((UInt64.ofNat (u64of (sl.getD i default) % (1 + u64of code % 4))).toInt64).toInt)) (y_move rfl) rfl ?_
            refine s_y (v := .agg #[.int .i64 12, .int .i64 0, .int .i64 0, .int .i64 1, .int .i64 5, .int .i64 (((UInt64.ofNat (u64of (sl.getD i default) % (1 + u64of code % 4))).toInt64).toInt)]) (y_buildL (m := [(0, .int .i64 12), (2, .int .i64 0), (3, .int .i64 1), (4, .int .i64 5), (5, .int .i64 (((UInt64.ofNat (u64of (sl.getD i default) % (1 + u64of code % 4))).toInt64).toInt))]) (vs := #[.int .i64 12, .int .i64 0, .int .i64 0, .int .i64 1, .int .i64 5, .int .i64 (((UInt64.ofNat (u64of (sl.getD i default) % (1 + u64of code % 4))).toInt64).toInt)]) (evc rfl (evc rfl (evc rfl (evc rfl (evc rfl evn))))) (fun w => by kernel_rfl)) rfl ?_
            refine s_e rfl ?_
            refine e_bsliceL (e := 86) (m := [(0, .agg #[.int .i64 1, .int .i64 5, .int .i64 0, .int .i64 0, .int .i64 0, .int .i64 0]), (1, .agg #[.int .i64 12, .int .i64 0, .int .i64 0, .int .i64 1, .int .i64 5, .int .i64 (((UInt64.ofNat (u64of (sl.getD i default) % (1 + u64of code % 4))).toInt64).toInt)])]) (l := [.int .i64 1, .int .i64 5, .int .i64 0, .int .i64 0, .int .i64 0, .int .i64 0, .int .i64 12, .int .i64 0, .int .i64 0, .int .i64 1, .int .i64 5, .int .i64 (((UInt64.ofNat (u64of (sl.getD i default) % (1 + u64of code % 4))).toInt64).toInt)]) (evc rfl (evc rfl evn)) (fun w => by kernel_rfl) ?_
            intro b_13
            refine s_e rfl ?_
            refine e_appendL (enc := opcV) (xs := (ps : List Opc)) (ns := ([(Opc.mk 1 5 0 0 0 0), (Opc.mk 12 0 0 1 5 ((UInt64.ofNat (u64of (sl.getD i default) % (1 + u64of code % 4))).toInt64))] : List Opc)) (zs := (ps ++ [(Opc.mk 1 5 0 0 0 0), (Opc.mk 12 0 0 1 5 ((UInt64.ofNat (u64of (sl.getD i default) % (1 + u64of code % 4))).toInt64))])) (bytes := 48) opcV_len opcV_one Try.underlying82 (i := Try.t86) rfl rfl rfl rfl rfl (by decide) rfl rfl (by first | rfl | omega) (by first | rfl | omega) (.t .h) (fun w hs => celR .h w hs) (by first | rfl | simp) (by (try simp only [List.length_append, List.length_cons, List.length_nil] at *); omega) (by (try simp only [List.length_append, List.length_cons, List.length_nil] at *); omega) ?_
            intro a_14 c_15
            refine s_y (v := .pointer (some ⟨b_2, 1, none⟩)) (y_fieldAddr (o' := 1) h9_6 Try.underlying84 rfl Try.sizeOf82 (by decide) rfl) rfl ?_
            refine s_e0 ?_
            refine e_store (vs := [.slice a_14 ((ps ++ [(Opc.mk 1 5 0 0 0 0), (Opc.mk 12 0 0 1 5 ((UInt64.ofNat (u64of (sl.getD i default) % (1 + u64of code % 4))).toInt64))]).length) c_15]) (l' := [.int .i64 ((((1 + ((u64of code) % 4)) : Nat) : Int)), .slice a_14 ((ps ++ [(Opc.mk 1 5 0 0 0 0), (Opc.mk 12 0 0 1 5 ((UInt64.ofNat (u64of (sl.getD i default) % (1 + u64of code % 4))).toInt64))]).length) c_15, .slice none 0 0, .slice none 0 0]) rfl rfl rfl rfl Try.sizeOf82 (.t (.t (.t .h))) (Nat.le_of_ble_eq_true rfl) rfl ?_
            refine wpL_nil ?_
            refine thenS_n ?_
            refine wpS_seq ?_
            refine wpS_region ?_
            refine s_y (v := .slice (some ⟨b_3, 0, none⟩) (1 + ((u64of code) % 4)) (1 + ((u64of code) % 4))) (y_move h10_6) rfl ?_
            refine s_y (v := .int .i64 (((UInt64.ofNat (u64of (sl.getD i default) % (1 + u64of code % 4))).toInt64).toInt)) (y_move rfl) rfl ?_
            refine s_y (v := .agg #[.bool true, .int .i64 0, .int .i64 0, .int .i64 0]) (y_buildL (m := [(0, .bool true)]) (vs := #[.bool true, .int .i64 0, .int .i64 0, .int .i64 0]) (evc rfl evn) (fun w => by kernel_rfl)) rfl ?_
            refine s_y (v := .pointer (some ⟨aB (some ⟨b_3, 0, none⟩), aO (some ⟨b_3, 0, none⟩) + ((((UInt64.ofNat (u64of (sl.getD i default) % (1 + u64of code % 4))).toInt64).toInt).toNat) * 4, none⟩)) (y_idx (o := ((((UInt64.ofNat (u64of (sl.getD i default) % (1 + u64of code % 4))).toInt64).toInt).toNat) * 4) rfl rfl Try.underlying69 Try.sizeOf23 (oslR (.t (.t (.t .h)))) ((fl_len recV_len _).trans (by first | omega | (simp only [List.length_set, List.length_take, List.length_drop]; done) | (simp only [List.length_set, List.length_take, List.length_drop]; omega))) (by decide) (by omega) (by omega) (by omega)) rfl ?_
            refine s_e0 ?_
            refine e_storeL (enc := recV) (xs := ws) (y := (Rec.mk true 0 0 0)) recV_len recV_one (by decide) rfl rfl rfl Try.sizeOf23 (.t (.t (.t .h))) (by (try simp only [List.length_set]); omega) ?_
            refine wpL_nil ?_
            refine thenS_n ?_
            refine wpS_seq ?_
            refine wpS_region ?_
            refine s_y (v := .bool ((al.getD i default))) (y_move rfl) rfl ?_
            refine wpL_nil ?_
            refine thenS_n ?_
            refine wpS_cond_F (t := (al.getD i default)) rfl b9 ?_
            refine wpS_skip ?_
            refine blockS_n ?_
            refine thenS_n ?_
            refine wpS_region ?_
            refine s_y (v := .int .i64 (((i : Nat) : Int))) (y_move h12_6) rfl ?_
            refine s_y (v := .int .i64 ((((i + 1) : Nat) : Int))) (y_add (a := ((i : Nat) : Int)) (b := 1) (c := (((i + 1) : Nat) : Int)) rfl rfl (wI (by omega) (by omega) (by omega))) rfl ?_
            refine s_y (v := .int .i64 ((((i + 1) : Nat) : Int))) (y_assign rfl) rfl ?_
            refine wpL_nil ?_
            refine thenS_n ?_
            exact ⟨_, by omega, ⟨(i + 1), (ps ++ [(Opc.mk 1 5 0 0 0 0), (Opc.mk 12 0 0 1 5 ((UInt64.ofNat (u64of (sl.getD i default) % (1 + u64of code % 4))).toInt64))]), (ws.set ((((UInt64.ofNat (u64of (sl.getD i default) % (1 + u64of code % 4))).toInt64).toInt).toNat) (Rec.mk true 0 0 0)), a_14, c_15, rfl, by omega, (by simp only [List.length_append, List.length_cons, List.length_nil]; omega), (by simp only [List.length_set]; omega), (slp_step (by assumption) (by first | (unfold slF; rw [if_pos (by assumption)]) | (unfold slF; rw [if_neg (by first | (rw [(by assumption : al.getD i default = false)]; decide) | (rw [getD_out (by omega)]; decide))]))), (by first | exact slw_t (by assumption) (by omega) (by assumption) | exact slw_f (by assumption) (by first | assumption | exact getD_out (by omega))), rfl, h0_6, h1_6, h2_6, h3_6, h9_6, h10_6, rfl, .p (.t (.t .h)) (.p .h (.p .h .nil))⟩⟩
        · -- decide (i < nd) False
          have p8 := of_decide_eq_false b8
          refine s_no rfl rfl rfl rfl (b' := decide (i < nd)) rfl b8 ?_
          refine s_no rfl rfl rfl rfl (b' := decide (i < nd)) rfl b8 ?_
          refine s_no rfl rfl rfl rfl (b' := decide (i < nd)) rfl b8 ?_
          refine s_no rfl rfl rfl rfl (b' := decide (i < nd)) rfl b8 ?_
          refine s_y (v := .bool false) (y_pickF (b := decide (i < nd)) (v := .bool false) rfl b8 rfl) rfl ?_
          refine s_y (v := .bool false) (y_assign rfl) rfl ?_
          refine wpL_nil ?_
          refine thenS_n ?_
          refine wpS_seq ?_
          refine wpS_region ?_
          refine s_y (v := .int .i64 0) (y_assign rfl) rfl ?_
          refine wpL_nil ?_
          refine thenS_n ?_
          refine wpS_seq ?_
          refine wpS_seq ?_
          refine wpS_region ?_
          refine s_y (v := .bool false) (y_move rfl) rfl ?_
          refine wpL_nil ?_
          refine thenS_n ?_
          refine wpS_cond_f rfl ?_
          refine wpS_skip ?_
          refine thenS_n ?_
          refine wpS_seq ?_
          refine wpS_region ?_
          refine s_y (v := .pointer (some ⟨b_2, 1, none⟩)) (y_fieldAddr (o' := 1) h9_6 Try.underlying84 rfl Try.sizeOf82 (by decide) rfl) rfl ?_
          refine s_y (v := .slice a1 ps.length c1) (y_load1 rfl Try.isAgg82 (own1 (.t (.t .h)) rfl)) rfl ?_
          refine s_y (v := .int .i64 0) (y_move rfl) rfl ?_
          refine s_y (v := .agg #[.int .i64 1, .int .i64 5, .int .i64 0, .int .i64 0, .int .i64 0, .int .i64 0]) (y_buildL (m := [(0, .int .i64 1), (1, .int .i64 5), (5, .int .i64 0)]) (vs := #[.int .i64 1, .int .i64 5, .int .i64 0, .int .i64 0, .int .i64 0, .int .i64 0]) (evc rfl (evc rfl (evc rfl evn))) (fun w => by kernel_rfl)) rfl ?_
          refine s_y (v := .int .i64 (((UInt64.ofNat (u64of (sl.getD i default) % (1 + u64of code % 4))).toInt64).toInt)) (y_move rfl) rfl ?_
          refine s_y (v := .agg #[.int .i64 12, .int .i64 0, .int .i64 0, .int .i64 1, .int .i64 5, .int .i64 (((UInt64.ofNat (u64of (sl.getD i default) % (1 + u64of code % 4))).toInt64).toInt)]) (y_buildL (m := [(0, .int .i64 12), (2, .int .i64 0), (3, .int .i64 1), (4, .int .i64 5), (5, .int .i64 (((UInt64.ofNat (u64of (sl.getD i default) % (1 + u64of code % 4))).toInt64).toInt))]) (vs := #[.int .i64 12, .int .i64 0, .int .i64 0, .int .i64 1, .int .i64 5, .int .i64 (((UInt64.ofNat (u64of (sl.getD i default) % (1 + u64of code % 4))).toInt64).toInt)]) (evc rfl (evc rfl (evc rfl (evc rfl (evc rfl evn))))) (fun w => by kernel_rfl)) rfl ?_
          refine s_e rfl ?_
          refine e_bsliceL (e := 86) (m := [(0, .agg #[.int .i64 1, .int .i64 5, .int .i64 0, .int .i64 0, .int .i64 0, .int .i64 0]), (1, .agg #[.int .i64 12, .int .i64 0, .int .i64 0, .int .i64 1, .int .i64 5, .int .i64 (((UInt64.ofNat (u64of (sl.getD i default) % (1 + u64of code % 4))).toInt64).toInt)])]) (l := [.int .i64 1, .int .i64 5, .int .i64 0, .int .i64 0, .int .i64 0, .int .i64 0, .int .i64 12, .int .i64 0, .int .i64 0, .int .i64 1, .int .i64 5, .int .i64 (((UInt64.ofNat (u64of (sl.getD i default) % (1 + u64of code % 4))).toInt64).toInt)]) (evc rfl (evc rfl evn)) (fun w => by kernel_rfl) ?_
          intro b_16
          refine s_e rfl ?_
          refine e_appendL (enc := opcV) (xs := (ps : List Opc)) (ns := ([(Opc.mk 1 5 0 0 0 0), (Opc.mk 12 0 0 1 5 ((UInt64.ofNat (u64of (sl.getD i default) % (1 + u64of code % 4))).toInt64))] : List Opc)) (zs := (ps ++ [(Opc.mk 1 5 0 0 0 0), (Opc.mk 12 0 0 1 5 ((UInt64.ofNat (u64of (sl.getD i default) % (1 + u64of code % 4))).toInt64))])) (bytes := 48) opcV_len opcV_one Try.underlying82 (i := Try.t86) rfl rfl rfl rfl rfl (by decide) rfl rfl (by first | rfl | omega) (by first | rfl | omega) (.t .h) (fun w hs => celR .h w hs) (by first | rfl | simp) (by (try simp only [List.length_append, List.length_cons, List.length_nil] at *); omega) (by (try simp only [List.length_append, List.length_cons, List.length_nil] at *); omega) ?_
          intro a_17 c_18
          refine s_y (v := .pointer (some ⟨b_2, 1, none⟩)) (y_fieldAddr (o' := 1) h9_6 Try.underlying84 rfl Try.sizeOf82 (by decide) rfl) rfl ?_
          refine s_e0 ?_
          refine e_store (vs := [.slice a_17 ((ps ++ [(Opc.mk 1 5 0 0 0 0), (Opc.mk 12 0 0 1 5 ((UInt64.ofNat (u64of (sl.getD i default) % (1 + u64of code % 4))).toInt64))]).length) c_18]) (l' := [.int .i64 ((((1 + ((u64of code) % 4)) : Nat) : Int)), .slice a_17 ((ps ++ [(Opc.mk 1 5 0 0 0 0), (Opc.mk 12 0 0 1 5 ((UInt64.ofNat (u64of (sl.getD i default) % (1 + u64of code % 4))).toInt64))]).length) c_18, .slice none 0 0, .slice none 0 0]) rfl rfl rfl rfl Try.sizeOf82 (.t (.t (.t .h))) (Nat.le_of_ble_eq_true rfl) rfl ?_
          refine wpL_nil ?_
          refine thenS_n ?_
          refine wpS_seq ?_
          refine wpS_region ?_
          refine s_y (v := .slice (some ⟨b_3, 0, none⟩) (1 + ((u64of code) % 4)) (1 + ((u64of code) % 4))) (y_move h10_6) rfl ?_
          refine s_y (v := .int .i64 (((UInt64.ofNat (u64of (sl.getD i default) % (1 + u64of code % 4))).toInt64).toInt)) (y_move rfl) rfl ?_
          refine s_y (v := .agg #[.bool true, .int .i64 0, .int .i64 0, .int .i64 0]) (y_buildL (m := [(0, .bool true)]) (vs := #[.bool true, .int .i64 0, .int .i64 0, .int .i64 0]) (evc rfl evn) (fun w => by kernel_rfl)) rfl ?_
          refine s_y (v := .pointer (some ⟨aB (some ⟨b_3, 0, none⟩), aO (some ⟨b_3, 0, none⟩) + ((((UInt64.ofNat (u64of (sl.getD i default) % (1 + u64of code % 4))).toInt64).toInt).toNat) * 4, none⟩)) (y_idx (o := ((((UInt64.ofNat (u64of (sl.getD i default) % (1 + u64of code % 4))).toInt64).toInt).toNat) * 4) rfl rfl Try.underlying69 Try.sizeOf23 (oslR (.t (.t (.t .h)))) ((fl_len recV_len _).trans (by first | omega | (simp only [List.length_set, List.length_take, List.length_drop]; done) | (simp only [List.length_set, List.length_take, List.length_drop]; omega))) (by decide) (by omega) (by omega) (by omega)) rfl ?_
          refine s_e0 ?_
          refine e_storeL (enc := recV) (xs := ws) (y := (Rec.mk true 0 0 0)) recV_len recV_one (by decide) rfl rfl rfl Try.sizeOf23 (.t (.t (.t .h))) (by (try simp only [List.length_set]); omega) ?_
          refine wpL_nil ?_
          refine thenS_n ?_
          refine wpS_seq ?_
          refine wpS_region ?_
          refine s_y (v := .bool false) (y_move rfl) rfl ?_
          refine wpL_nil ?_
          refine thenS_n ?_
          refine wpS_cond_f rfl ?_
          refine wpS_skip ?_
          refine blockS_n ?_
          refine thenS_n ?_
          refine wpS_region ?_
          refine s_y (v := .int .i64 (((i : Nat) : Int))) (y_move h12_6) rfl ?_
          refine s_y (v := .int .i64 ((((i + 1) : Nat) : Int))) (y_add (a := ((i : Nat) : Int)) (b := 1) (c := (((i + 1) : Nat) : Int)) rfl rfl (wI (by omega) (by omega) (by omega))) rfl ?_
          refine s_y (v := .int .i64 ((((i + 1) : Nat) : Int))) (y_assign rfl) rfl ?_
          refine wpL_nil ?_
          refine thenS_n ?_
          exact ⟨_, by omega, ⟨(i + 1), (ps ++ [(Opc.mk 1 5 0 0 0 0), (Opc.mk 12 0 0 1 5 ((UInt64.ofNat (u64of (sl.getD i default) % (1 + u64of code % 4))).toInt64))]), (ws.set ((((UInt64.ofNat (u64of (sl.getD i default) % (1 + u64of code % 4))).toInt64).toInt).toNat) (Rec.mk true 0 0 0)), a_17, c_18, rfl, by omega, (by simp only [List.length_append, List.length_cons, List.length_nil]; omega), (by simp only [List.length_set]; omega), (slp_step (by assumption) (by first | (unfold slF; rw [if_pos (by assumption)]) | (unfold slF; rw [if_neg (by first | (rw [(by assumption : al.getD i default = false)]; decide) | (rw [getD_out (by omega)]; decide))]))), (by first | exact slw_t (by assumption) (by omega) (by assumption) | exact slw_f (by assumption) (by first | assumption | exact getD_out (by omega))), rfl, h0_6, h1_6, h2_6, h3_6, h9_6, h10_6, rfl, .p (.t (.t .h)) (.p .h (.p .h .nil))⟩⟩
      · -- decide (i < na) false
        have p7 := of_decide_eq_false b7
        refine wpS_exit ?_
        refine thenS_x ?_
        refine thenS_x ?_
        refine blockS_h ?_
        refine thenS_n ?_
        refine wpS_seq ?_
        refine wpS_region ?_
        refine s_y (v := .bool true) (y_call (args := #[]) (v := .bool true) Try.call82 ev0 (fun w hs => awake11_c w)) rfl ?_
        refine s_y (v := .bool true) (y_move rfl) rfl ?_
        refine s_gy (y_loadN (vs := [.int .i64 ((((1 + ((u64of code) % 4)) : Nat) : Int)), .slice a1 ps.length c1, .slice none 0 0, .slice none 0 0]) h9_6 Try.isAgg84 Try.sizeOf84 (ownN (.t (.t .h)) rfl)) rfl rfl rfl rfl rfl rfl ?_
        refine s_gy (y_move h3_6) rfl rfl rfl rfl rfl rfl ?_
        refine s_gy (y_buildL (m := [(0, .int .i64 7), (1, .int .i64 (-8))]) (vs := #[.int .i64 7, .int .i64 (-8)]) (evc rfl (evc rfl evn)) (fun w => by kernel_rfl)) rfl rfl rfl rfl rfl rfl ?_
        refine s_ge rfl rfl rfl rfl rfl rfl ?_
        refine e_call (f := 83) (args := #[.agg #[.int .i64 ((((1 + ((u64of code) % 4)) : Nat) : Int)), .slice a1 ps.length c1, .slice none 0 0, .slice none 0 0], .int .i64 (((nn &&& 1023)).toInt), .agg #[.int .i64 7, .int .i64 (-8)]]) (X := Option Addr × Nat) (A := []) (M := [osl a1 c1 ps.length 6 86 (ps.flatMap opcV), osl (some ⟨b_3, 0, none⟩) (1 + ((u64of code) % 4)) (1 + ((u64of code) % 4)) 4 23 (ws.flatMap recV), cel b_2 84 [.int .i64 ((((1 + ((u64of code) % 4)) : Nat) : Int)), .slice a1 ps.length c1, .slice none 0 0, .slice none 0 0]]) (V := slV (mapC (chkB (((1 + ((u64of code) % 4)) : Nat) : Int) ps ([]) ([])) (((1 + ((u64of code) % 4)) : Nat) : Int) ps (nn &&& 1023) 7 (-8))) (A' := fun x => [slR recV 4 23 (mapC (chkB (((1 + ((u64of code) % 4)) : Nat) : Int) ps ([]) ([])) (((1 + ((u64of code) % 4)) : Nat) : Int) ps (nn &&& 1023) 7 (-8)) x]) (C := fun _ => True) Try.call83 (ev3 rfl rfl rfl) (.p .h (.p .h (.p .h .nil))) (fun w hs => map_c (((1 + ((u64of code) % 4)) : Nat) : Int) a1 none none ps.length c1 0 0 0 0 ps ([]) ([]) (nn &&& 1023) 7 (-8) w (by first | rfl | (simp only [List.length_set]; done) | omega) (oslR .h w hs) (by omega) (by first | rfl | (simp only [List.length_set]; done) | omega) (Rds.nil _ _) (by omega) (by first | rfl | (simp only [List.length_set]; done) | omega) (Rds.nil _ _) (by omega)) ?_
        rintro ⟨a_19, c_20⟩ -
        have hml22 : (mapC (chkB (((1 + ((u64of code) % 4)) : Nat) : Int) ps ([]) ([])) (((1 + ((u64of code) % 4)) : Nat) : Int) ps (nn &&& 1023) 7 (-8)).length ≤ 4 := mapC_len
        refine s_gy (y_move h10_6) rfl rfl rfl rfl rfl rfl ?_
        refine s_gy (y_call (args := #[.slice a_19 ((mapC (chkB (((1 + ((u64of code) % 4)) : Nat) : Int) ps ([]) ([])) (((1 + ((u64of code) % 4)) : Nat) : Int) ps (nn &&& 1023) 7 (-8)).length) c_20, .slice (some ⟨b_3, 0, none⟩) (1 + ((u64of code) % 4)) (1 + ((u64of code) % 4))]) (v := .bool (decide ((mapC (chkB (((1 + ((u64of code) % 4)) : Nat) : Int) ps ([]) ([])) (((1 + ((u64of code) % 4)) : Nat) : Int) ps (nn &&& 1023) 7 (-8)) = ws))) Try.call77 (ev2 rfl rfl) (fun w hs => plain_c a_19 (some ⟨b_3, 0, none⟩) ((mapC (chkB (((1 + ((u64of code) % 4)) : Nat) : Int) ps ([]) ([])) (((1 + ((u64of code) % 4)) : Nat) : Int) ps (nn &&& 1023) 7 (-8)).length) c_20 (1 + ((u64of code) % 4)) (1 + ((u64of code) % 4)) (mapC (chkB (((1 + ((u64of code) % 4)) : Nat) : Int) ps ([]) ([])) (((1 + ((u64of code) % 4)) : Nat) : Int) ps (nn &&& 1023) 7 (-8)) ws w rfl (by first | rfl | (simp only [List.length_set]; done) | omega) (oslR .h w hs) (oslR (.t (.t .h)) w hs) (by omega) (by omega))) rfl rfl rfl rfl rfl rfl ?_
        refine s_y (v := .bool (decide ((mapC (chkB (((1 + ((u64of code) % 4)) : Nat) : Int) ps ([]) ([])) (((1 + ((u64of code) % 4)) : Nat) : Int) ps (nn &&& 1023) 7 (-8)) = ws))) (y_pickT (v := .bool (decide ((mapC (chkB (((1 + ((u64of code) % 4)) : Nat) : Int) ps ([]) ([])) (((1 + ((u64of code) % 4)) : Nat) : Int) ps (nn &&& 1023) 7 (-8)) = ws))) rfl rfl rfl) rfl ?_
        refine s_y (v := .bool (decide ((mapC (chkB (((1 + ((u64of code) % 4)) : Nat) : Int) ps ([]) ([])) (((1 + ((u64of code) % 4)) : Nat) : Int) ps (nn &&& 1023) 7 (-8)) = ws))) (y_assign rfl) rfl ?_
        refine wpL_nil ?_
        refine thenS_n ?_
        refine wpS_ret ?_
        refine fin1 (v := .bool (decide ((mapC (chkB (((1 + ((u64of code) % 4)) : Nat) : Int) ps ([]) ([])) (((1 + ((u64of code) % 4)) : Nat) : Int) ps (nn &&& 1023) 7 (-8)) = ws))) (.inr rfl) (.nil) Try.results19 rfl ?_
        exact fun w' hs => ⟨congrArg (fun b => Ending.returned (Value.bool b)) (show (decide ((mapC (chkB (((1 + ((u64of code) % 4)) : Nat) : Int) ps ([]) ([])) (((1 + ((u64of code) % 4)) : Nat) : Int) ps (nn &&& 1023) 7 (-8)) = ws)) = true from (decide_eq_true (by rw [(by assumption : ps = _), (by assumption : ws = _)]; exact slot_fin (by omega) (by omega) (by omega)))), hs⟩

end Go.Proofs.Ytldkjjnjdjfipaa
