/- Which program may be, by the reference; walked. -/
import Derived.Test.YtldkjjnjdjfipaaWVm2
namespace Go.Proofs.Ytldkjjnjdjfipaa
open Go Go.RowKit
set_option linter.unusedVariables false
set_option linter.unusedSimpArgs false
set_option maxRecDepth 10000
set_option maxHeartbeats 1000000

theorem op_noR {k : Int} {o : Opc} (h : o.o0 < 1 ∨ 12 < o.o0 ∨ o.o1 < 0 ∨ 8 ≤ o.o1 ∨ o.o2 < 0 ∨ 8 ≤ o.o2 ∨ o.o3 < 0 ∨ 8 ≤ o.o3 ∨ o.o4 < 0 ∨ 8 ≤ o.o4) : opOk k o = false := by
  rw [Bool.eq_false_iff]
  intro h2
  have := op_regs h2
  omega
theorem op_yesR {k : Int} {o : Opc} (h : 1 ≤ o.o0 ∧ o.o0 ≤ 12 ∧ 0 ≤ o.o1 ∧ o.o1 < 8 ∧ 0 ≤ o.o2 ∧ o.o2 < 8 ∧ 0 ≤ o.o3 ∧ o.o3 < 8 ∧ 0 ≤ o.o4 ∧ o.o4 < 8) (h3 : o.o0 = 12 → 0 ≤ o.o5.toInt ∧ o.o5.toInt < k) : opOk k o = true := by
  unfold opOk rOk
  by_cases h4 : o.o0 = 12
  · have := h3 h4
    simp [h4]
    omega
  · simp [h4]
    omega
theorem part_end {k : Int} {l : List Opc} {i : Nat} (hi : l.length ≤ i) (h : (l.take i).all (opOk k) = true) {z : Nat} (hz : l.length = z) : partOk k l = decide (z ≤ 40) := by
  rw [List.take_of_length_le hi] at h
  unfold partOk
  rw [h, Bool.and_true, hz]

theorem rpart_c (ga : Option Addr) (gn gc : Nat) (l : List Opc) (k : Int) (w : World) (hn : l.length = gn) (hr : Rds w ga (l.flatMap opcV)) (hb : gn ≤ 9223372036854775807) : Pure Try.prog 181 #[.slice ga gn gc, .int .i64 k] w (.bool (partOk k l)) := by
  refine calls_S (n := 82) (σ0 := (upd (upd fr0 0 (.slice ga gn gc)) 1 (.int .i64 k))) (D := []) (A := []) Try.func181 rfl Try.ntmps181 rfl (a2_fr _ _) (SH.start w) ?_
  refine wpS_seq ?_
  refine wpS_region ?_
  refine s_y (v := .bool false) (y_assign rfl) rfl ?_
  refine wpL_nil ?_
  refine thenS_n ?_
  refine wpS_seq ?_
  refine wpS_seq ?_
  refine wpS_region ?_
  refine s_y (v := .int .i64 0) (y_assign rfl) rfl ?_
  refine wpL_nil ?_
  refine thenS_n ?_
  refine wpS_block ?_
  refine wpS_loop (fun mez ds σ L => ∃ i : Nat, mez = gn - i ∧ (i ≤ gn) ∧ ((l.take i).all (opOk k) = true) ∧ ds = [] ∧ σ 0 = .slice ga gn gc ∧ σ 1 = .int .i64 k ∧ σ 5 = .int .i64 (((i : Nat) : Int)) ∧ Ent L []) (m0 := gn - 0) ⟨0, rfl, by omega, by simp, rfl, rfl, rfl, rfl, .nil⟩ ?_
  rintro mez ds σ L ⟨i, hm_1, hf0_1, hf1_1, rfl, h0_1, h1_1, h5_1, hE_1⟩
  refine wpS_ent hE_1 ?_; clear hE_1
  refine wpS_seq ?_
  refine wpS_seq ?_
  refine wpS_region ?_
  refine s_y (v := .int .i64 (((i : Nat) : Int))) (y_move h5_1) rfl ?_
  refine s_y (v := .slice ga gn gc) (y_move h0_1) rfl ?_
  refine s_y (v := .int .i64 (((gn : Nat) : Int))) (y_len (ty' := 0) (at_ := #[]) rfl Try.underlying82) rfl ?_
  refine s_y (v := .bool (decide (i < gn))) (y_lss (a := ((i : Nat) : Int)) (b := ((gn : Nat) : Int)) (c := decide (i < gn)) rfl rfl (decide_eq_decide.2 (by omega))) rfl ?_
  refine wpL_nil ?_
  refine thenS_n ?_
  refine wpS_cond (t := decide (i < gn)) rfl (fun b2 => ?_) (fun b2 => ?_)
  · -- decide (i < gn) true
    have p2 := of_decide_eq_true b2
    refine wpS_skip ?_
    refine thenS_n ?_
    refine wpS_seq ?_
    refine wpS_block ?_
    refine wpS_seq ?_
    refine wpS_region ?_
    refine s_y (v := .slice ga gn gc) (y_move h0_1) rfl ?_
    refine s_y (v := .int .i64 (((i : Nat) : Int))) (y_move h5_1) rfl ?_
    refine s_y (v := .pointer (some ⟨aB ga, aO ga + i * 6, none⟩)) (y_idx (o := i * 6) rfl rfl Try.underlying82 Try.sizeOf86 (oldR hr) ((fl_len opcV_len _).trans (by first | omega | (simp only [List.length_set, List.length_take, List.length_drop]; done) | (simp only [List.length_set, List.length_take, List.length_drop]; omega))) (by decide) (by omega) (by omega) (by omega)) rfl ?_
    refine s_y (v := .agg #[.int .i64 ((l.getD i default).o0), .int .i64 ((l.getD i default).o1), .int .i64 ((l.getD i default).o2), .int .i64 ((l.getD i default).o3), .int .i64 ((l.getD i default).o4), .int .i64 (((l.getD i default).o5).toInt)]) (y_loadN (vs := opcV (l.getD i default)) rfl Try.isAgg86 Try.sizeOf86 (rdN (oldR hr) (fl_getN opcV_len l i (by first | omega | (simp only [List.length_set, List.length_take, List.length_drop]; done) | (simp only [List.length_set, List.length_take, List.length_drop]; omega))))) rfl ?_
    refine s_e rfl ?_
    refine e_alloc (l := [.int .i64 0, .int .i64 0, .int .i64 0, .int .i64 0, .int .i64 0, .int .i64 0]) Try.zeroValue86 rfl ?_
    intro b_3
    refine s_e0 ?_
    refine e_store (vs := [.int .i64 ((l.getD i default).o0), .int .i64 ((l.getD i default).o1), .int .i64 ((l.getD i default).o2), .int .i64 ((l.getD i default).o3), .int .i64 ((l.getD i default).o4), .int .i64 (((l.getD i default).o5).toInt)]) (l' := [.int .i64 ((l.getD i default).o0), .int .i64 ((l.getD i default).o1), .int .i64 ((l.getD i default).o2), .int .i64 ((l.getD i default).o3), .int .i64 ((l.getD i default).o4), .int .i64 (((l.getD i default).o5).toInt)]) rfl rfl rfl rfl Try.sizeOf86 .h (Nat.le_of_ble_eq_true rfl) rfl ?_
    refine wpL_nil ?_
    refine thenS_n ?_
    refine wpS_seq ?_
    refine wpS_seq ?_
    refine wpS_region ?_
    refine s_y (v := .pointer (some ⟨b_3, 0, none⟩)) (y_fieldAddr (o' := 0) rfl Try.underlying86 rfl Try.sizeOf3 (by decide) rfl) rfl ?_
    refine s_y (v := .int .i64 ((l.getD i default).o0)) (y_load1 rfl Try.isAgg3 (own1 .h rfl)) rfl ?_
    refine s_y (v := .bool (decide (((l.getD i default).o0 : Int) < 1))) (y_lss (a := (l.getD i default).o0) (b := 1) rfl rfl rfl) rfl ?_
    refine s_y (v := .bool (decide (((l.getD i default).o0 : Int) < 1))) (y_move rfl) rfl ?_
    rcases Bool.eq_false_or_eq_true (decide (((l.getD i default).o0 : Int) < 1)) with b4 | b4
    · -- decide (((l.getD i default).o0 : Int) < 1) True
      have p4 := of_decide_eq_true b4
      refine s_no rfl rfl rfl rfl (b' := decide (((l.getD i default).o0 : Int) < 1)) rfl b4 ?_
      refine s_no rfl rfl rfl rfl (b' := decide (((l.getD i default).o0 : Int) < 1)) rfl b4 ?_
      refine s_no rfl rfl rfl rfl (b' := decide (((l.getD i default).o0 : Int) < 1)) rfl b4 ?_
      refine s_y (v := .bool true) (y_pickT (b := decide (((l.getD i default).o0 : Int) < 1)) (v := .bool true) rfl b4 rfl) rfl ?_
      refine s_y (v := .bool true) (y_move rfl) rfl ?_
      refine s_no rfl rfl rfl rfl rfl rfl ?_
      refine s_no rfl rfl rfl rfl rfl rfl ?_
      refine s_no rfl rfl rfl rfl rfl rfl ?_
      refine s_y (v := .bool true) (y_pickT (v := .bool true) rfl rfl rfl) rfl ?_
      refine s_y (v := .bool true) (y_move rfl) rfl ?_
      refine s_no rfl rfl rfl rfl rfl rfl ?_
      refine s_no rfl rfl rfl rfl rfl rfl ?_
      refine s_no rfl rfl rfl rfl rfl rfl ?_
      refine s_y (v := .bool true) (y_pickT (v := .bool true) rfl rfl rfl) rfl ?_
      refine s_y (v := .bool true) (y_move rfl) rfl ?_
      refine s_no rfl rfl rfl rfl rfl rfl ?_
      refine s_no rfl rfl rfl rfl rfl rfl ?_
      refine s_no rfl rfl rfl rfl rfl rfl ?_
      refine s_y (v := .bool true) (y_pickT (v := .bool true) rfl rfl rfl) rfl ?_
      refine s_y (v := .bool true) (y_move rfl) rfl ?_
      refine s_no rfl rfl rfl rfl rfl rfl ?_
      refine s_no rfl rfl rfl rfl rfl rfl ?_
      refine s_no rfl rfl rfl rfl rfl rfl ?_
      refine s_y (v := .bool true) (y_pickT (v := .bool true) rfl rfl rfl) rfl ?_
      refine s_y (v := .bool true) (y_move rfl) rfl ?_
      refine s_no rfl rfl rfl rfl rfl rfl ?_
      refine s_no rfl rfl rfl rfl rfl rfl ?_
      refine s_no rfl rfl rfl rfl rfl rfl ?_
      refine s_y (v := .bool true) (y_pickT (v := .bool true) rfl rfl rfl) rfl ?_
      refine s_y (v := .bool true) (y_move rfl) rfl ?_
      refine s_no rfl rfl rfl rfl rfl rfl ?_
      refine s_no rfl rfl rfl rfl rfl rfl ?_
      refine s_no rfl rfl rfl rfl rfl rfl ?_
      refine s_y (v := .bool true) (y_pickT (v := .bool true) rfl rfl rfl) rfl ?_
      refine s_y (v := .bool true) (y_move rfl) rfl ?_
      refine s_no rfl rfl rfl rfl rfl rfl ?_
      refine s_no rfl rfl rfl rfl rfl rfl ?_
      refine s_no rfl rfl rfl rfl rfl rfl ?_
      refine s_y (v := .bool true) (y_pickT (v := .bool true) rfl rfl rfl) rfl ?_
      refine s_y (v := .bool true) (y_move rfl) rfl ?_
      refine s_no rfl rfl rfl rfl rfl rfl ?_
      refine s_no rfl rfl rfl rfl rfl rfl ?_
      refine s_no rfl rfl rfl rfl rfl rfl ?_
      refine s_y (v := .bool true) (y_pickT (v := .bool true) rfl rfl rfl) rfl ?_
      refine wpL_nil ?_
      refine thenS_n ?_
      refine wpS_cond_t rfl ?_
      refine wpS_seq ?_
      refine wpS_region ?_
      refine s_y (v := .bool false) (y_assign rfl) rfl ?_
      refine wpL_nil ?_
      refine thenS_n ?_
      refine wpS_ret ?_
      refine thenS_r ?_
      refine blockS_r ?_
      refine thenS_r ?_
      refine thenS_r ?_
      refine blockS_r ?_
      refine thenS_r ?_
      refine fin1 (v := .bool false) (.inr rfl) (.nil) Try.results181 rfl ?_
      exact fun w' hs => ⟨congrArg (fun b : Bool => Ending.returned (.bool b)) ((part_no (i := i) (by omega) (by first | exact op_noR (by omega) | exact op_no3 (by omega) (by omega))).symm), hs⟩
    · -- decide (((l.getD i default).o0 : Int) < 1) False
      have p4 := of_decide_eq_false b4
      refine s_gy (y_fieldAddr (o' := 0) rfl Try.underlying86 rfl Try.sizeOf3 (by decide) rfl) rfl rfl rfl rfl (b' := decide (((l.getD i default).o0 : Int) < 1)) rfl b4 ?_
      refine s_gy (y_load1 rfl Try.isAgg3 (own1 .h rfl)) rfl rfl rfl rfl (b' := decide (((l.getD i default).o0 : Int) < 1)) rfl b4 ?_
      refine s_gy (y_gtr (a := (l.getD i default).o0) (b := 12) rfl rfl rfl) rfl rfl rfl rfl (b' := decide (((l.getD i default).o0 : Int) < 1)) rfl b4 ?_
      refine s_y (v := .bool (decide ((12 : Int) < ((l.getD i default).o0)))) (y_pickF (b := decide (((l.getD i default).o0 : Int) < 1)) (v := .bool (decide ((12 : Int) < ((l.getD i default).o0)))) rfl b4 rfl) rfl ?_
      refine s_y (v := .bool (decide ((12 : Int) < ((l.getD i default).o0)))) (y_move rfl) rfl ?_
      rcases Bool.eq_false_or_eq_true (decide ((12 : Int) < ((l.getD i default).o0))) with b5 | b5
      · -- decide ((12 : Int) < ((l.getD i default).o0)) True
        have p5 := of_decide_eq_true b5
        refine s_no rfl rfl rfl rfl (b' := decide ((12 : Int) < ((l.getD i default).o0))) rfl b5 ?_
        refine s_no rfl rfl rfl rfl (b' := decide ((12 : Int) < ((l.getD i default).o0))) rfl b5 ?_
        refine s_no rfl rfl rfl rfl (b' := decide ((12 : Int) < ((l.getD i default).o0))) rfl b5 ?_
        refine s_y (v := .bool true) (y_pickT (b := decide ((12 : Int) < ((l.getD i default).o0))) (v := .bool true) rfl b5 rfl) rfl ?_
        refine s_y (v := .bool true) (y_move rfl) rfl ?_
        refine s_no rfl rfl rfl rfl rfl rfl ?_
        refine s_no rfl rfl rfl rfl rfl rfl ?_
        refine s_no rfl rfl rfl rfl rfl rfl ?_
        refine s_y (v := .bool true) (y_pickT (v := .bool true) rfl rfl rfl) rfl ?_
        refine s_y (v := .bool true) (y_move rfl) rfl ?_
        refine s_no rfl rfl rfl rfl rfl rfl ?_
        refine s_no rfl rfl rfl rfl rfl rfl ?_
        refine s_no rfl rfl rfl rfl rfl rfl ?_
        refine s_y (v := .bool true) (y_pickT (v := .bool true) rfl rfl rfl) rfl ?_
        refine s_y (v := .bool true) (y_move rfl) rfl ?_
        refine s_no rfl rfl rfl rfl rfl rfl ?_
        refine s_no rfl rfl rfl rfl rfl rfl ?_
        refine s_no rfl rfl rfl rfl rfl rfl ?_
        refine s_y (v := .bool true) (y_pickT (v := .bool true) rfl rfl rfl) rfl ?_
        refine s_y (v := .bool true) (y_move rfl) rfl ?_
        refine s_no rfl rfl rfl rfl rfl rfl ?_
        refine s_no rfl rfl rfl rfl rfl rfl ?_
        refine s_no rfl rfl rfl rfl rfl rfl ?_
        refine s_y (v := .bool true) (y_pickT (v := .bool true) rfl rfl rfl) rfl ?_
        refine s_y (v := .bool true) (y_move rfl) rfl ?_
        refine s_no rfl rfl rfl rfl rfl rfl ?_
        refine s_no rfl rfl rfl rfl rfl rfl ?_
        refine s_no rfl rfl rfl rfl rfl rfl ?_
        refine s_y (v := .bool true) (y_pickT (v := .bool true) rfl rfl rfl) rfl ?_
        refine s_y (v := .bool true) (y_move rfl) rfl ?_
        refine s_no rfl rfl rfl rfl rfl rfl ?_
        refine s_no rfl rfl rfl rfl rfl rfl ?_
        refine s_no rfl rfl rfl rfl rfl rfl ?_
        refine s_y (v := .bool true) (y_pickT (v := .bool true) rfl rfl rfl) rfl ?_
        refine s_y (v := .bool true) (y_move rfl) rfl ?_
        refine s_no rfl rfl rfl rfl rfl rfl ?_
        refine s_no rfl rfl rfl rfl rfl rfl ?_
        refine s_no rfl rfl rfl rfl rfl rfl ?_
        refine s_y (v := .bool true) (y_pickT (v := .bool true) rfl rfl rfl) rfl ?_
        refine wpL_nil ?_
        refine thenS_n ?_
        refine wpS_cond_t rfl ?_
        refine wpS_seq ?_
        refine wpS_region ?_
        refine s_y (v := .bool false) (y_assign rfl) rfl ?_
        refine wpL_nil ?_
        refine thenS_n ?_
        refine wpS_ret ?_
        refine thenS_r ?_
        refine blockS_r ?_
        refine thenS_r ?_
        refine thenS_r ?_
        refine blockS_r ?_
        refine thenS_r ?_
        refine fin1 (v := .bool false) (.inr rfl) (.nil) Try.results181 rfl ?_
        exact fun w' hs => ⟨congrArg (fun b : Bool => Ending.returned (.bool b)) ((part_no (i := i) (by omega) (by first | exact op_noR (by omega) | exact op_no3 (by omega) (by omega))).symm), hs⟩
      · -- decide ((12 : Int) < ((l.getD i default).o0)) False
        have p5 := of_decide_eq_false b5
        refine s_gy (y_fieldAddr (o' := 1) rfl Try.underlying86 rfl Try.sizeOf3 (by decide) rfl) rfl rfl rfl rfl (b' := decide ((12 : Int) < ((l.getD i default).o0))) rfl b5 ?_
        refine s_gy (y_load1 rfl Try.isAgg3 (own1 .h rfl)) rfl rfl rfl rfl (b' := decide ((12 : Int) < ((l.getD i default).o0))) rfl b5 ?_
        refine s_gy (y_lss (a := (l.getD i default).o1) (b := 0) rfl rfl rfl) rfl rfl rfl rfl (b' := decide ((12 : Int) < ((l.getD i default).o0))) rfl b5 ?_
        refine s_y (v := .bool (decide (((l.getD i default).o1 : Int) < 0))) (y_pickF (b := decide ((12 : Int) < ((l.getD i default).o0))) (v := .bool (decide (((l.getD i default).o1 : Int) < 0))) rfl b5 rfl) rfl ?_
        refine s_y (v := .bool (decide (((l.getD i default).o1 : Int) < 0))) (y_move rfl) rfl ?_
        rcases Bool.eq_false_or_eq_true (decide (((l.getD i default).o1 : Int) < 0)) with b6 | b6
        · -- decide (((l.getD i default).o1 : Int) < 0) True
          have p6 := of_decide_eq_true b6
          refine s_no rfl rfl rfl rfl (b' := decide (((l.getD i default).o1 : Int) < 0)) rfl b6 ?_
          refine s_no rfl rfl rfl rfl (b' := decide (((l.getD i default).o1 : Int) < 0)) rfl b6 ?_
          refine s_no rfl rfl rfl rfl (b' := decide (((l.getD i default).o1 : Int) < 0)) rfl b6 ?_
          refine s_y (v := .bool true) (y_pickT (b := decide (((l.getD i default).o1 : Int) < 0)) (v := .bool true) rfl b6 rfl) rfl ?_
          refine s_y (v := .bool true) (y_move rfl) rfl ?_
          refine s_no rfl rfl rfl rfl rfl rfl ?_
          refine s_no rfl rfl rfl rfl rfl rfl ?_
          refine s_no rfl rfl rfl rfl rfl rfl ?_
          refine s_y (v := .bool true) (y_pickT (v := .bool true) rfl rfl rfl) rfl ?_
          refine s_y (v := .bool true) (y_move rfl) rfl ?_
          refine s_no rfl rfl rfl rfl rfl rfl ?_
          refine s_no rfl rfl rfl rfl rfl rfl ?_
          refine s_no rfl rfl rfl rfl rfl rfl ?_
          refine s_y (v := .bool true) (y_pickT (v := .bool true) rfl rfl rfl) rfl ?_
          refine s_y (v := .bool true) (y_move rfl) rfl ?_
          refine s_no rfl rfl rfl rfl rfl rfl ?_
          refine s_no rfl rfl rfl rfl rfl rfl ?_
          refine s_no rfl rfl rfl rfl rfl rfl ?_
          refine s_y (v := .bool true) (y_pickT (v := .bool true) rfl rfl rfl) rfl ?_
          refine s_y (v := .bool true) (y_move rfl) rfl ?_
          refine s_no rfl rfl rfl rfl rfl rfl ?_
          refine s_no rfl rfl rfl rfl rfl rfl ?_
          refine s_no rfl rfl rfl rfl rfl rfl ?_
          refine s_y (v := .bool true) (y_pickT (v := .bool true) rfl rfl rfl) rfl ?_
          refine s_y (v := .bool true) (y_move rfl) rfl ?_
          refine s_no rfl rfl rfl rfl rfl rfl ?_
          refine s_no rfl rfl rfl rfl rfl rfl ?_
          refine s_no rfl rfl rfl rfl rfl rfl ?_
          refine s_y (v := .bool true) (y_pickT (v := .bool true) rfl rfl rfl) rfl ?_
          refine s_y (v := .bool true) (y_move rfl) rfl ?_
          refine s_no rfl rfl rfl rfl rfl rfl ?_
          refine s_no rfl rfl rfl rfl rfl rfl ?_
          refine s_no rfl rfl rfl rfl rfl rfl ?_
          refine s_y (v := .bool true) (y_pickT (v := .bool true) rfl rfl rfl) rfl ?_
          refine wpL_nil ?_
          refine thenS_n ?_
          refine wpS_cond_t rfl ?_
          refine wpS_seq ?_
          refine wpS_region ?_
          refine s_y (v := .bool false) (y_assign rfl) rfl ?_
          refine wpL_nil ?_
          refine thenS_n ?_
          refine wpS_ret ?_
          refine thenS_r ?_
          refine blockS_r ?_
          refine thenS_r ?_
          refine thenS_r ?_
          refine blockS_r ?_
          refine thenS_r ?_
          refine fin1 (v := .bool false) (.inr rfl) (.nil) Try.results181 rfl ?_
          exact fun w' hs => ⟨congrArg (fun b : Bool => Ending.returned (.bool b)) ((part_no (i := i) (by omega) (by first | exact op_noR (by omega) | exact op_no3 (by omega) (by omega))).symm), hs⟩
        · -- decide (((l.getD i default).o1 : Int) < 0) False
          have p6 := of_decide_eq_false b6
          refine s_gy (y_fieldAddr (o' := 1) rfl Try.underlying86 rfl Try.sizeOf3 (by decide) rfl) rfl rfl rfl rfl (b' := decide (((l.getD i default).o1 : Int) < 0)) rfl b6 ?_
          refine s_gy (y_load1 rfl Try.isAgg3 (own1 .h rfl)) rfl rfl rfl rfl (b' := decide (((l.getD i default).o1 : Int) < 0)) rfl b6 ?_
          refine s_gy (y_geq (a := (l.getD i default).o1) (b := 8) rfl rfl rfl) rfl rfl rfl rfl (b' := decide (((l.getD i default).o1 : Int) < 0)) rfl b6 ?_
          refine s_y (v := .bool (decide ((8 : Int) ≤ ((l.getD i default).o1)))) (y_pickF (b := decide (((l.getD i default).o1 : Int) < 0)) (v := .bool (decide ((8 : Int) ≤ ((l.getD i default).o1)))) rfl b6 rfl) rfl ?_
          refine s_y (v := .bool (decide ((8 : Int) ≤ ((l.getD i default).o1)))) (y_move rfl) rfl ?_
          rcases Bool.eq_false_or_eq_true (decide ((8 : Int) ≤ ((l.getD i default).o1))) with b7 | b7
          · -- decide ((8 : Int) ≤ ((l.getD i default).o1)) True
            have p7 := of_decide_eq_true b7
            refine s_no rfl rfl rfl rfl (b' := decide ((8 : Int) ≤ ((l.getD i default).o1))) rfl b7 ?_
            refine s_no rfl rfl rfl rfl (b' := decide ((8 : Int) ≤ ((l.getD i default).o1))) rfl b7 ?_
            refine s_no rfl rfl rfl rfl (b' := decide ((8 : Int) ≤ ((l.getD i default).o1))) rfl b7 ?_
            refine s_y (v := .bool true) (y_pickT (b := decide ((8 : Int) ≤ ((l.getD i default).o1))) (v := .bool true) rfl b7 rfl) rfl ?_
            refine s_y (v := .bool true) (y_move rfl) rfl ?_
            refine s_no rfl rfl rfl rfl rfl rfl ?_
            refine s_no rfl rfl rfl rfl rfl rfl ?_
            refine s_no rfl rfl rfl rfl rfl rfl ?_
            refine s_y (v := .bool true) (y_pickT (v := .bool true) rfl rfl rfl) rfl ?_
            refine s_y (v := .bool true) (y_move rfl) rfl ?_
            refine s_no rfl rfl rfl rfl rfl rfl ?_
            refine s_no rfl rfl rfl rfl rfl rfl ?_
            refine s_no rfl rfl rfl rfl rfl rfl ?_
            refine s_y (v := .bool true) (y_pickT (v := .bool true) rfl rfl rfl) rfl ?_
            refine s_y (v := .bool true) (y_move rfl) rfl ?_
            refine s_no rfl rfl rfl rfl rfl rfl ?_
            refine s_no rfl rfl rfl rfl rfl rfl ?_
            refine s_no rfl rfl rfl rfl rfl rfl ?_
            refine s_y (v := .bool true) (y_pickT (v := .bool true) rfl rfl rfl) rfl ?_
            refine s_y (v := .bool true) (y_move rfl) rfl ?_
            refine s_no rfl rfl rfl rfl rfl rfl ?_
            refine s_no rfl rfl rfl rfl rfl rfl ?_
            refine s_no rfl rfl rfl rfl rfl rfl ?_
            refine s_y (v := .bool true) (y_pickT (v := .bool true) rfl rfl rfl) rfl ?_
            refine s_y (v := .bool true) (y_move rfl) rfl ?_
            refine s_no rfl rfl rfl rfl rfl rfl ?_
            refine s_no rfl rfl rfl rfl rfl rfl ?_
            refine s_no rfl rfl rfl rfl rfl rfl ?_
            refine s_y (v := .bool true) (y_pickT (v := .bool true) rfl rfl rfl) rfl ?_
            refine wpL_nil ?_
            refine thenS_n ?_
            refine wpS_cond_t rfl ?_
            refine wpS_seq ?_
            refine wpS_region ?_
            refine s_y (v := .bool false) (y_assign rfl) rfl ?_
            refine wpL_nil ?_
            refine thenS_n ?_
            refine wpS_ret ?_
            refine thenS_r ?_
            refine blockS_r ?_
            refine thenS_r ?_
            refine thenS_r ?_
            refine blockS_r ?_
            refine thenS_r ?_
            refine fin1 (v := .bool false) (.inr rfl) (.nil) Try.results181 rfl ?_
            exact fun w' hs => ⟨congrArg (fun b : Bool => Ending.returned (.bool b)) ((part_no (i := i) (by omega) (by first | exact op_noR (by omega) | exact op_no3 (by omega) (by omega))).symm), hs⟩
          · -- decide ((8 : Int) ≤ ((l.getD i default).o1)) False
            have p7 := of_decide_eq_false b7
            refine s_gy (y_fieldAddr (o' := 2) rfl Try.underlying86 rfl Try.sizeOf3 (by decide) rfl) rfl rfl rfl rfl (b' := decide ((8 : Int) ≤ ((l.getD i default).o1))) rfl b7 ?_
            refine s_gy (y_load1 rfl Try.isAgg3 (own1 .h rfl)) rfl rfl rfl rfl (b' := decide ((8 : Int) ≤ ((l.getD i default).o1))) rfl b7 ?_
            refine s_gy (y_lss (a := (l.getD i default).o2) (b := 0) rfl rfl rfl) rfl rfl rfl rfl (b' := decide ((8 : Int) ≤ ((l.getD i default).o1))) rfl b7 ?_
            refine s_y (v := .bool (decide (((l.getD i default).o2 : Int) < 0))) (y_pickF (b := decide ((8 : Int) ≤ ((l.getD i default).o1))) (v := .bool (decide (((l.getD i default).o2 : Int) < 0))) rfl b7 rfl) rfl ?_
            refine s_y (v := .bool (decide (((l.getD i default).o2 : Int) < 0))) (y_move rfl) rfl ?_
            rcases Bool.eq_false_or_eq_true (decide (((l.getD i default).o2 : Int) < 0)) with b8 | b8
            · -- decide (((l.getD i default).o2 : Int) < 0) True
              have p8 := of_decide_eq_true b8
              refine s_no rfl rfl rfl rfl (b' := decide (((l.getD i default).o2 : Int) < 0)) rfl b8 ?_
              refine s_no rfl rfl rfl rfl (b' := decide (((l.getD i default).o2 : Int) < 0)) rfl b8 ?_
              refine s_no rfl rfl rfl rfl (b' := decide (((l.getD i default).o2 : Int) < 0)) rfl b8 ?_
              refine s_y (v := .bool true) (y_pickT (b := decide (((l.getD i default).o2 : Int) < 0)) (v := .bool true) rfl b8 rfl) rfl ?_
              refine s_y (v := .bool true) (y_move rfl) rfl ?_
              refine s_no rfl rfl rfl rfl rfl rfl ?_
              refine s_no rfl rfl rfl rfl rfl rfl ?_
              refine s_no rfl rfl rfl rfl rfl rfl ?_
              refine s_y (v := .bool true) (y_pickT (v := .bool true) rfl rfl rfl) rfl ?_
              refine s_y (v := .bool true) (y_move rfl) rfl ?_
              refine s_no rfl rfl rfl rfl rfl rfl ?_
              refine s_no rfl rfl rfl rfl rfl rfl ?_
              refine s_no rfl rfl rfl rfl rfl rfl ?_
              refine s_y (v := .bool true) (y_pickT (v := .bool true) rfl rfl rfl) rfl ?_
              refine s_y (v := .bool true) (y_move rfl) rfl ?_
              refine s_no rfl rfl rfl rfl rfl rfl ?_
              refine s_no rfl rfl rfl rfl rfl rfl ?_
              refine s_no rfl rfl rfl rfl rfl rfl ?_
              refine s_y (v := .bool true) (y_pickT (v := .bool true) rfl rfl rfl) rfl ?_
              refine s_y (v := .bool true) (y_move rfl) rfl ?_
              refine s_no rfl rfl rfl rfl rfl rfl ?_
              refine s_no rfl rfl rfl rfl rfl rfl ?_
              refine s_no rfl rfl rfl rfl rfl rfl ?_
              refine s_y (v := .bool true) (y_pickT (v := .bool true) rfl rfl rfl) rfl ?_
              refine wpL_nil ?_
              refine thenS_n ?_
              refine wpS_cond_t rfl ?_
              refine wpS_seq ?_
              refine wpS_region ?_
              refine s_y (v := .bool false) (y_assign rfl) rfl ?_
              refine wpL_nil ?_
              refine thenS_n ?_
              refine wpS_ret ?_
              refine thenS_r ?_
              refine blockS_r ?_
              refine thenS_r ?_
              refine thenS_r ?_
              refine blockS_r ?_
              refine thenS_r ?_
              refine fin1 (v := .bool false) (.inr rfl) (.nil) Try.results181 rfl ?_
              exact fun w' hs => ⟨congrArg (fun b : Bool => Ending.returned (.bool b)) ((part_no (i := i) (by omega) (by first | exact op_noR (by omega) | exact op_no3 (by omega) (by omega))).symm), hs⟩
            · -- decide (((l.getD i default).o2 : Int) < 0) False
              have p8 := of_decide_eq_false b8
              refine s_gy (y_fieldAddr (o' := 2) rfl Try.underlying86 rfl Try.sizeOf3 (by decide) rfl) rfl rfl rfl rfl (b' := decide (((l.getD i default).o2 : Int) < 0)) rfl b8 ?_
              refine s_gy (y_load1 rfl Try.isAgg3 (own1 .h rfl)) rfl rfl rfl rfl (b' := decide (((l.getD i default).o2 : Int) < 0)) rfl b8 ?_
              refine s_gy (y_geq (a := (l.getD i default).o2) (b := 8) rfl rfl rfl) rfl rfl rfl rfl (b' := decide (((l.getD i default).o2 : Int) < 0)) rfl b8 ?_
              refine s_y (v := .bool (decide ((8 : Int) ≤ ((l.getD i default).o2)))) (y_pickF (b := decide (((l.getD i default).o2 : Int) < 0)) (v := .bool (decide ((8 : Int) ≤ ((l.getD i default).o2)))) rfl b8 rfl) rfl ?_
              refine s_y (v := .bool (decide ((8 : Int) ≤ ((l.getD i default).o2)))) (y_move rfl) rfl ?_
              rcases Bool.eq_false_or_eq_true (decide ((8 : Int) ≤ ((l.getD i default).o2))) with b9 | b9
              · -- decide ((8 : Int) ≤ ((l.getD i default).o2)) True
                have p9 := of_decide_eq_true b9
                refine s_no rfl rfl rfl rfl (b' := decide ((8 : Int) ≤ ((l.getD i default).o2))) rfl b9 ?_
                refine s_no rfl rfl rfl rfl (b' := decide ((8 : Int) ≤ ((l.getD i default).o2))) rfl b9 ?_
                refine s_no rfl rfl rfl rfl (b' := decide ((8 : Int) ≤ ((l.getD i default).o2))) rfl b9 ?_
                refine s_y (v := .bool true) (y_pickT (b := decide ((8 : Int) ≤ ((l.getD i default).o2))) (v := .bool true) rfl b9 rfl) rfl ?_
                refine s_y (v := .bool true) (y_move rfl) rfl ?_
                refine s_no rfl rfl rfl rfl rfl rfl ?_
                refine s_no rfl rfl rfl rfl rfl rfl ?_
                refine s_no rfl rfl rfl rfl rfl rfl ?_
                refine s_y (v := .bool true) (y_pickT (v := .bool true) rfl rfl rfl) rfl ?_
                refine s_y (v := .bool true) (y_move rfl) rfl ?_
                refine s_no rfl rfl rfl rfl rfl rfl ?_
                refine s_no rfl rfl rfl rfl rfl rfl ?_
                refine s_no rfl rfl rfl rfl rfl rfl ?_
                refine s_y (v := .bool true) (y_pickT (v := .bool true) rfl rfl rfl) rfl ?_
                refine s_y (v := .bool true) (y_move rfl) rfl ?_
                refine s_no rfl rfl rfl rfl rfl rfl ?_
                refine s_no rfl rfl rfl rfl rfl rfl ?_
                refine s_no rfl rfl rfl rfl rfl rfl ?_
                refine s_y (v := .bool true) (y_pickT (v := .bool true) rfl rfl rfl) rfl ?_
                refine wpL_nil ?_
                refine thenS_n ?_
                refine wpS_cond_t rfl ?_
                refine wpS_seq ?_
                refine wpS_region ?_
                refine s_y (v := .bool false) (y_assign rfl) rfl ?_
                refine wpL_nil ?_
                refine thenS_n ?_
                refine wpS_ret ?_
                refine thenS_r ?_
                refine blockS_r ?_
                refine thenS_r ?_
                refine thenS_r ?_
                refine blockS_r ?_
                refine thenS_r ?_
                refine fin1 (v := .bool false) (.inr rfl) (.nil) Try.results181 rfl ?_
                exact fun w' hs => ⟨congrArg (fun b : Bool => Ending.returned (.bool b)) ((part_no (i := i) (by omega) (by first | exact op_noR (by omega) | exact op_no3 (by omega) (by omega))).symm), hs⟩
              · -- decide ((8 : Int) ≤ ((l.getD i default).o2)) False
                have p9 := of_decide_eq_false b9
                refine s_gy (y_fieldAddr (o' := 3) rfl Try.underlying86 rfl Try.sizeOf3 (by decide) rfl) rfl rfl rfl rfl (b' := decide ((8 : Int) ≤ ((l.getD i default).o2))) rfl b9 ?_
                refine s_gy (y_load1 rfl Try.isAgg3 (own1 .h rfl)) rfl rfl rfl rfl (b' := decide ((8 : Int) ≤ ((l.getD i default).o2))) rfl b9 ?_
                refine s_gy (y_lss (a := (l.getD i default).o3) (b := 0) rfl rfl rfl) rfl rfl rfl rfl (b' := decide ((8 : Int) ≤ ((l.getD i default).o2))) rfl b9 ?_
                refine s_y (v := .bool (decide (((l.getD i default).o3 : Int) < 0))) (y_pickF (b := decide ((8 : Int) ≤ ((l.getD i default).o2))) (v := .bool (decide (((l.getD i default).o3 : Int) < 0))) rfl b9 rfl) rfl ?_
                refine s_y (v := .bool (decide (((l.getD i default).o3 : Int) < 0))) (y_move rfl) rfl ?_
                rcases Bool.eq_false_or_eq_true (decide (((l.getD i default).o3 : Int) < 0)) with b10 | b10
                · -- decide (((l.getD i default).o3 : Int) < 0) True
                  have p10 := of_decide_eq_true b10
                  refine s_no rfl rfl rfl rfl (b' := decide (((l.getD i default).o3 : Int) < 0)) rfl b10 ?_
                  refine s_no rfl rfl rfl rfl (b' := decide (((l.getD i default).o3 : Int) < 0)) rfl b10 ?_
                  refine s_no rfl rfl rfl rfl (b' := decide (((l.getD i default).o3 : Int) < 0)) rfl b10 ?_
                  refine s_y (v := .bool true) (y_pickT (b := decide (((l.getD i default).o3 : Int) < 0)) (v := .bool true) rfl b10 rfl) rfl ?_
                  refine s_y (v := .bool true) (y_move rfl) rfl ?_
                  refine s_no rfl rfl rfl rfl rfl rfl ?_
                  refine s_no rfl rfl rfl rfl rfl rfl ?_
                  refine s_no rfl rfl rfl rfl rfl rfl ?_
                  refine s_y (v := .bool true) (y_pickT (v := .bool true) rfl rfl rfl) rfl ?_
                  refine s_y (v := .bool true) (y_move rfl) rfl ?_
                  refine s_no rfl rfl rfl rfl rfl rfl ?_
                  refine s_no rfl rfl rfl rfl rfl rfl ?_
                  refine s_no rfl rfl rfl rfl rfl rfl ?_
                  refine s_y (v := .bool true) (y_pickT (v := .bool true) rfl rfl rfl) rfl ?_
                  refine wpL_nil ?_
                  refine thenS_n ?_
                  refine wpS_cond_t rfl ?_
                  refine wpS_seq ?_
                  refine wpS_region ?_
                  refine s_y (v := .bool false) (y_assign rfl) rfl ?_
                  refine wpL_nil ?_
                  refine thenS_n ?_
                  refine wpS_ret ?_
                  refine thenS_r ?_
                  refine blockS_r ?_
                  refine thenS_r ?_
                  refine thenS_r ?_
                  refine blockS_r ?_
                  refine thenS_r ?_
                  refine fin1 (v := .bool false) (.inr rfl) (.nil) Try.results181 rfl ?_
                  exact fun w' hs => ⟨congrArg (fun b : Bool => Ending.returned (.bool b)) ((part_no (i := i) (by omega) (by first | exact op_noR (by omega) | exact op_no3 (by omega) (by omega))).symm), hs⟩
                · -- decide (((l.getD i default).o3 : Int) < 0) False
                  have p10 := of_decide_eq_false b10
                  refine s_gy (y_fieldAddr (o' := 3) rfl Try.underlying86 rfl Try.sizeOf3 (by decide) rfl) rfl rfl rfl rfl (b' := decide (((l.getD i default).o3 : Int) < 0)) rfl b10 ?_
                  refine s_gy (y_load1 rfl Try.isAgg3 (own1 .h rfl)) rfl rfl rfl rfl (b' := decide (((l.getD i default).o3 : Int) < 0)) rfl b10 ?_
                  refine s_gy (y_geq (a := (l.getD i default).o3) (b := 8) rfl rfl rfl) rfl rfl rfl rfl (b' := decide (((l.getD i default).o3 : Int) < 0)) rfl b10 ?_
                  refine s_y (v := .bool (decide ((8 : Int) ≤ ((l.getD i default).o3)))) (y_pickF (b := decide (((l.getD i default).o3 : Int) < 0)) (v := .bool (decide ((8 : Int) ≤ ((l.getD i default).o3)))) rfl b10 rfl) rfl ?_
                  refine s_y (v := .bool (decide ((8 : Int) ≤ ((l.getD i default).o3)))) (y_move rfl) rfl ?_
                  rcases Bool.eq_false_or_eq_true (decide ((8 : Int) ≤ ((l.getD i default).o3))) with b11 | b11
                  · -- decide ((8 : Int) ≤ ((l.getD i default).o3)) True
                    have p11 := of_decide_eq_true b11
                    refine s_no rfl rfl rfl rfl (b' := decide ((8 : Int) ≤ ((l.getD i default).o3))) rfl b11 ?_
                    refine s_no rfl rfl rfl rfl (b' := decide ((8 : Int) ≤ ((l.getD i default).o3))) rfl b11 ?_
                    refine s_no rfl rfl rfl rfl (b' := decide ((8 : Int) ≤ ((l.getD i default).o3))) rfl b11 ?_
                    refine s_y (v := .bool true) (y_pickT (b := decide ((8 : Int) ≤ ((l.getD i default).o3))) (v := .bool true) rfl b11 rfl) rfl ?_
                    refine s_y (v := .bool true) (y_move rfl) rfl ?_
                    refine s_no rfl rfl rfl rfl rfl rfl ?_
                    refine s_no rfl rfl rfl rfl rfl rfl ?_
                    refine s_no rfl rfl rfl rfl rfl rfl ?_
                    refine s_y (v := .bool true) (y_pickT (v := .bool true) rfl rfl rfl) rfl ?_
                    refine wpL_nil ?_
                    refine thenS_n ?_
                    refine wpS_cond_t rfl ?_
                    refine wpS_seq ?_
                    refine wpS_region ?_
                    refine s_y (v := .bool false) (y_assign rfl) rfl ?_
                    refine wpL_nil ?_
                    refine thenS_n ?_
                    refine wpS_ret ?_
                    refine thenS_r ?_
                    refine blockS_r ?_
                    refine thenS_r ?_
                    refine thenS_r ?_
                    refine blockS_r ?_
                    refine thenS_r ?_
                    refine fin1 (v := .bool false) (.inr rfl) (.nil) Try.results181 rfl ?_
                    exact fun w' hs => ⟨congrArg (fun b : Bool => Ending.returned (.bool b)) ((part_no (i := i) (by omega) (by first | exact op_noR (by omega) | exact op_no3 (by omega) (by omega))).symm), hs⟩
                  · -- decide ((8 : Int) ≤ ((l.getD i default).o3)) False
                    have p11 := of_decide_eq_false b11
                    refine s_gy (y_fieldAddr (o' := 4) rfl Try.underlying86 rfl Try.sizeOf3 (by decide) rfl) rfl rfl rfl rfl (b' := decide ((8 : Int) ≤ ((l.getD i default).o3))) rfl b11 ?_
                    refine s_gy (y_load1 rfl Try.isAgg3 (own1 .h rfl)) rfl rfl rfl rfl (b' := decide ((8 : Int) ≤ ((l.getD i default).o3))) rfl b11 ?_
                    refine s_gy (y_lss (a := (l.getD i default).o4) (b := 0) rfl rfl rfl) rfl rfl rfl rfl (b' := decide ((8 : Int) ≤ ((l.getD i default).o3))) rfl b11 ?_
                    refine s_y (v := .bool (decide (((l.getD i default).o4 : Int) < 0))) (y_pickF (b := decide ((8 : Int) ≤ ((l.getD i default).o3))) (v := .bool (decide (((l.getD i default).o4 : Int) < 0))) rfl b11 rfl) rfl ?_
                    refine s_y (v := .bool (decide (((l.getD i default).o4 : Int) < 0))) (y_move rfl) rfl ?_
                    rcases Bool.eq_false_or_eq_true (decide (((l.getD i default).o4 : Int) < 0)) with b12 | b12
                    · -- decide (((l.getD i default).o4 : Int) < 0) True
                      have p12 := of_decide_eq_true b12
                      refine s_no rfl rfl rfl rfl (b' := decide (((l.getD i default).o4 : Int) < 0)) rfl b12 ?_
                      refine s_no rfl rfl rfl rfl (b' := decide (((l.getD i default).o4 : Int) < 0)) rfl b12 ?_
                      refine s_no rfl rfl rfl rfl (b' := decide (((l.getD i default).o4 : Int) < 0)) rfl b12 ?_
                      refine s_y (v := .bool true) (y_pickT (b := decide (((l.getD i default).o4 : Int) < 0)) (v := .bool true) rfl b12 rfl) rfl ?_
                      refine wpL_nil ?_
                      refine thenS_n ?_
                      refine wpS_cond_t rfl ?_
                      refine wpS_seq ?_
                      refine wpS_region ?_
                      refine s_y (v := .bool false) (y_assign rfl) rfl ?_
                      refine wpL_nil ?_
                      refine thenS_n ?_
                      refine wpS_ret ?_
                      refine thenS_r ?_
                      refine blockS_r ?_
                      refine thenS_r ?_
                      refine thenS_r ?_
                      refine blockS_r ?_
                      refine thenS_r ?_
                      refine fin1 (v := .bool false) (.inr rfl) (.nil) Try.results181 rfl ?_
                      exact fun w' hs => ⟨congrArg (fun b : Bool => Ending.returned (.bool b)) ((part_no (i := i) (by omega) (by first | exact op_noR (by omega) | exact op_no3 (by omega) (by omega))).symm), hs⟩
                    · -- decide (((l.getD i default).o4 : Int) < 0) False
                      have p12 := of_decide_eq_false b12
                      refine s_gy (y_fieldAddr (o' := 4) rfl Try.underlying86 rfl Try.sizeOf3 (by decide) rfl) rfl rfl rfl rfl (b' := decide (((l.getD i default).o4 : Int) < 0)) rfl b12 ?_
                      refine s_gy (y_load1 rfl Try.isAgg3 (own1 .h rfl)) rfl rfl rfl rfl (b' := decide (((l.getD i default).o4 : Int) < 0)) rfl b12 ?_
                      refine s_gy (y_geq (a := (l.getD i default).o4) (b := 8) rfl rfl rfl) rfl rfl rfl rfl (b' := decide (((l.getD i default).o4 : Int) < 0)) rfl b12 ?_
                      refine s_y (v := .bool (decide ((8 : Int) ≤ ((l.getD i default).o4)))) (y_pickF (b := decide (((l.getD i default).o4 : Int) < 0)) (v := .bool (decide ((8 : Int) ≤ ((l.getD i default).o4)))) rfl b12 rfl) rfl ?_
                      refine wpL_nil ?_
                      refine thenS_n ?_
                      refine wpS_cond (t := decide ((8 : Int) ≤ ((l.getD i default).o4))) rfl (fun b13 => ?_) (fun b13 => ?_)
                      · -- decide ((8 : Int) ≤ ((l.getD i default).o4)) true
                        have p13 := of_decide_eq_true b13
                        refine wpS_seq ?_
                        refine wpS_region ?_
                        refine s_y (v := .bool false) (y_assign rfl) rfl ?_
                        refine wpL_nil ?_
                        refine thenS_n ?_
                        refine wpS_ret ?_
                        refine thenS_r ?_
                        refine blockS_r ?_
                        refine thenS_r ?_
                        refine thenS_r ?_
                        refine blockS_r ?_
                        refine thenS_r ?_
                        refine fin1 (v := .bool false) (.inr rfl) (.nil) Try.results181 rfl ?_
                        exact fun w' hs => ⟨congrArg (fun b : Bool => Ending.returned (.bool b)) ((part_no (i := i) (by omega) (by first | exact op_noR (by omega) | exact op_no3 (by omega) (by omega))).symm), hs⟩
                      · -- decide ((8 : Int) ≤ ((l.getD i default).o4)) false
                        have p13 := of_decide_eq_false b13
                        refine wpS_skip ?_
                        refine thenS_n ?_
                        refine wpS_seq ?_
                        refine wpS_region ?_
                        refine s_y (v := .pointer (some ⟨b_3, 0, none⟩)) (y_fieldAddr (o' := 0) rfl Try.underlying86 rfl Try.sizeOf3 (by decide) rfl) rfl ?_
                        refine s_y (v := .int .i64 ((l.getD i default).o0)) (y_load1 rfl Try.isAgg3 (own1 .h rfl)) rfl ?_
                        refine s_y (v := .bool (decide (((l.getD i default).o0 : Int) = 12))) (y_eql (a := (l.getD i default).o0) (b := 12) rfl rfl rfl) rfl ?_
                        refine s_y (v := .bool (decide (((l.getD i default).o0 : Int) = 12))) (y_move rfl) rfl ?_
                        rcases Bool.eq_false_or_eq_true (decide (((l.getD i default).o0 : Int) = 12)) with b14 | b14
                        · -- decide (((l.getD i default).o0 : Int) = 12) True
                          have p14 := of_decide_eq_true b14
                          refine s_gy (y_fieldAddr (o' := 5) rfl Try.underlying86 rfl Try.sizeOf2 (by decide) rfl) rfl rfl rfl rfl (b' := decide (((l.getD i default).o0 : Int) = 12)) rfl b14 ?_
                          refine s_gy (y_load1 rfl Try.isAgg2 (own1 .h rfl)) rfl rfl rfl rfl (b' := decide (((l.getD i default).o0 : Int) = 12)) rfl b14 ?_
                          refine s_gy (y_lss (a := ((l.getD i default).o5).toInt) (b := 0) rfl rfl rfl) rfl rfl rfl rfl (b' := decide (((l.getD i default).o0 : Int) = 12)) rfl b14 ?_
                          refine s_gy (y_move rfl) rfl rfl rfl rfl (b' := decide (((l.getD i default).o0 : Int) = 12)) rfl b14 ?_
                          rcases Bool.eq_false_or_eq_true (decide ((((l.getD i default).o5).toInt : Int) < 0)) with b15 | b15
                          · -- decide ((((l.getD i default).o5).toInt : Int) < 0) True
                            have p15 := of_decide_eq_true b15
                            refine s_no rfl rfl rfl rfl (b' := decide ((((l.getD i default).o5).toInt : Int) < 0)) rfl b15 ?_
                            refine s_no rfl rfl rfl rfl (b' := decide ((((l.getD i default).o5).toInt : Int) < 0)) rfl b15 ?_
                            refine s_no rfl rfl rfl rfl (b' := decide ((((l.getD i default).o5).toInt : Int) < 0)) rfl b15 ?_
                            refine s_no rfl rfl rfl rfl (b' := decide ((((l.getD i default).o5).toInt : Int) < 0)) rfl b15 ?_
                            refine s_gy (y_pickT (b := decide ((((l.getD i default).o5).toInt : Int) < 0)) (v := .bool true) rfl b15 rfl) rfl rfl rfl rfl (b' := decide (((l.getD i default).o0 : Int) = 12)) rfl b14 ?_
                            refine s_y (v := .bool true) (y_pickT (b := decide (((l.getD i default).o0 : Int) = 12)) (v := .bool true) rfl b14 rfl) rfl ?_
                            refine wpL_nil ?_
                            refine thenS_n ?_
                            refine wpS_cond_t rfl ?_
                            refine wpS_seq ?_
                            refine wpS_region ?_
                            refine s_y (v := .bool false) (y_assign rfl) rfl ?_
                            refine wpL_nil ?_
                            refine thenS_n ?_
                            refine wpS_ret ?_
                            refine blockS_r ?_
                            refine thenS_r ?_
                            refine thenS_r ?_
                            refine blockS_r ?_
                            refine thenS_r ?_
                            refine fin1 (v := .bool false) (.inr rfl) (.nil) Try.results181 rfl ?_
                            exact fun w' hs => ⟨congrArg (fun b : Bool => Ending.returned (.bool b)) ((part_no (i := i) (by omega) (by first | exact op_noR (by omega) | exact op_no3 (by omega) (by omega))).symm), hs⟩
                          · -- decide ((((l.getD i default).o5).toInt : Int) < 0) False
                            have p15 := of_decide_eq_false b15
                            refine s_gy (y_fieldAddr (o' := 5) rfl Try.underlying86 rfl Try.sizeOf2 (by decide) rfl) rfl rfl rfl rfl (b' := decide ((((l.getD i default).o5).toInt : Int) < 0)) rfl b15 ?_
                            refine s_gy (y_load1 rfl Try.isAgg2 (own1 .h rfl)) rfl rfl rfl rfl (b' := decide ((((l.getD i default).o5).toInt : Int) < 0)) rfl b15 ?_
                            refine s_gy (y_move h1_1) rfl rfl rfl rfl (b' := decide ((((l.getD i default).o5).toInt : Int) < 0)) rfl b15 ?_
                            refine s_gy (y_geq (a := ((l.getD i default).o5).toInt) (b := k) rfl rfl rfl) rfl rfl rfl rfl (b' := decide ((((l.getD i default).o5).toInt : Int) < 0)) rfl b15 ?_
                            refine s_gy (y_pickF (b := decide ((((l.getD i default).o5).toInt : Int) < 0)) (v := .bool (decide ((k : Int) ≤ (((l.getD i default).o5).toInt)))) rfl b15 rfl) rfl rfl rfl rfl (b' := decide (((l.getD i default).o0 : Int) = 12)) rfl b14 ?_
                            refine s_y (v := .bool (decide ((k : Int) ≤ (((l.getD i default).o5).toInt)))) (y_pickT (b := decide (((l.getD i default).o0 : Int) = 12)) (v := .bool (decide ((k : Int) ≤ (((l.getD i default).o5).toInt)))) rfl b14 rfl) rfl ?_
                            refine wpL_nil ?_
                            refine thenS_n ?_
                            refine wpS_cond (t := decide ((k : Int) ≤ (((l.getD i default).o5).toInt))) rfl (fun b16 => ?_) (fun b16 => ?_)
                            · -- decide ((k : Int) ≤ (((l.getD i default).o5).toInt)) true
                              have p16 := of_decide_eq_true b16
                              refine wpS_seq ?_
                              refine wpS_region ?_
                              refine s_y (v := .bool false) (y_assign rfl) rfl ?_
                              refine wpL_nil ?_
                              refine thenS_n ?_
                              refine wpS_ret ?_
                              refine blockS_r ?_
                              refine thenS_r ?_
                              refine thenS_r ?_
                              refine blockS_r ?_
                              refine thenS_r ?_
                              refine fin1 (v := .bool false) (.inr rfl) (.nil) Try.results181 rfl ?_
                              exact fun w' hs => ⟨congrArg (fun b : Bool => Ending.returned (.bool b)) ((part_no (i := i) (by omega) (by first | exact op_noR (by omega) | exact op_no3 (by omega) (by omega))).symm), hs⟩
                            · -- decide ((k : Int) ≤ (((l.getD i default).o5).toInt)) false
                              have p16 := of_decide_eq_false b16
                              refine wpS_skip ?_
                              refine blockS_n ?_
                              refine thenS_n ?_
                              refine wpS_region ?_
                              refine s_y (v := .int .i64 (((i : Nat) : Int))) (y_move h5_1) rfl ?_
                              refine s_y (v := .int .i64 ((((i + 1) : Nat) : Int))) (y_add (a := ((i : Nat) : Int)) (b := 1) (c := (((i + 1) : Nat) : Int)) rfl rfl (wI (by omega) (by omega) (by omega))) rfl ?_
                              refine s_y (v := .int .i64 ((((i + 1) : Nat) : Int))) (y_assign rfl) rfl ?_
                              refine wpL_nil ?_
                              refine thenS_n ?_
                              exact ⟨_, by omega, ⟨(i + 1), rfl, by omega, (all_step (by omega) (by assumption) (op_yesR (by omega) (by omega))), rfl, h0_1, h1_1, rfl, .nil⟩⟩
                        · -- decide (((l.getD i default).o0 : Int) = 12) False
                          have p14 := of_decide_eq_false b14
                          refine s_no rfl rfl rfl rfl (b' := decide (((l.getD i default).o0 : Int) = 12)) rfl b14 ?_
                          refine s_no rfl rfl rfl rfl (b' := decide (((l.getD i default).o0 : Int) = 12)) rfl b14 ?_
                          refine s_no rfl rfl rfl rfl (b' := decide (((l.getD i default).o0 : Int) = 12)) rfl b14 ?_
                          refine s_no rfl rfl rfl rfl (b' := decide (((l.getD i default).o0 : Int) = 12)) rfl b14 ?_
                          refine s_nu rfl rfl rfl rfl rfl ?_
                          refine s_nu rfl rfl rfl rfl rfl ?_
                          refine s_nu rfl rfl rfl rfl rfl ?_
                          refine s_nu rfl rfl rfl rfl rfl ?_
                          refine s_no rfl rfl rfl rfl (b' := decide (((l.getD i default).o0 : Int) = 12)) rfl b14 ?_
                          refine s_y (v := .bool false) (y_pickF (b := decide (((l.getD i default).o0 : Int) = 12)) (v := .bool false) rfl b14 rfl) rfl ?_
                          refine wpL_nil ?_
                          refine thenS_n ?_
                          refine wpS_cond_f rfl ?_
                          refine wpS_skip ?_
                          refine blockS_n ?_
                          refine thenS_n ?_
                          refine wpS_region ?_
                          refine s_y (v := .int .i64 (((i : Nat) : Int))) (y_move h5_1) rfl ?_
                          refine s_y (v := .int .i64 ((((i + 1) : Nat) : Int))) (y_add (a := ((i : Nat) : Int)) (b := 1) (c := (((i + 1) : Nat) : Int)) rfl rfl (wI (by omega) (by omega) (by omega))) rfl ?_
                          refine s_y (v := .int .i64 ((((i + 1) : Nat) : Int))) (y_assign rfl) rfl ?_
                          refine wpL_nil ?_
                          refine thenS_n ?_
                          exact ⟨_, by omega, ⟨(i + 1), rfl, by omega, (all_step (by omega) (by assumption) (op_yesR (by omega) (by omega))), rfl, h0_1, h1_1, rfl, .nil⟩⟩
  · -- decide (i < gn) false
    have p2 := of_decide_eq_false b2
    refine wpS_exit ?_
    refine thenS_x ?_
    refine thenS_x ?_
    refine blockS_h ?_
    refine thenS_n ?_
    refine wpS_seq ?_
    refine wpS_region ?_
    refine s_y (v := .slice ga gn gc) (y_move h0_1) rfl ?_
    refine s_y (v := .int .i64 (((gn : Nat) : Int))) (y_len (ty' := 0) (at_ := #[]) rfl Try.underlying82) rfl ?_
    refine s_y (v := .bool (decide ((gn : Nat) ≤ 40))) (y_leq (a := ((gn : Nat) : Int)) (b := 40) (c := decide ((gn : Nat) ≤ 40)) rfl rfl (decide_eq_decide.2 (by omega))) rfl ?_
    refine s_y (v := .bool (decide ((gn : Nat) ≤ 40))) (y_assign rfl) rfl ?_
    refine wpL_nil ?_
    refine thenS_n ?_
    refine wpS_ret ?_
    refine fin1 (v := .bool (decide ((gn : Nat) ≤ 40))) (.inr rfl) (.nil) Try.results181 rfl ?_
    exact fun w' hs => ⟨congrArg (fun b : Bool => Ending.returned (.bool b)) ((part_end (i := i) (by omega) (by assumption) (by omega)).symm), hs⟩

theorem rcheck_c (k : Int) (a1 a2 a3 : Option Addr) (n1 c1 n2 c2 n3 c3 : Nat) (l1 l2 l3 : List Opc) (w : World) (hn1 : l1.length = n1) (hr1 : Rds w a1 (l1.flatMap opcV)) (hb1 : n1 ≤ 9223372036854775807) (hn2 : l2.length = n2) (hr2 : Rds w a2 (l2.flatMap opcV)) (hb2 : n2 ≤ 9223372036854775807) (hn3 : l3.length = n3) (hr3 : Rds w a3 (l3.flatMap opcV)) (hb3 : n3 ≤ 9223372036854775807) : Pure Try.prog 93 #[.agg #[.int .i64 k, .slice a1 n1 c1, .slice a2 n2 c2, .slice a3 n3 c3]] w (.int .i64 (chk11 k l1 l2 l3)) := by
  refine calls_S (n := 31) (σ0 := (upd fr0 0 (.agg #[.int .i64 k, .slice a1 n1 c1, .slice a2 n2 c2, .slice a3 n3 c3]))) (D := []) (A := []) Try.func93 rfl Try.ntmps93 rfl (a1_fr _) (SH.start w) ?_
  refine wpS_seq ?_
  refine wpS_region ?_
  refine s_e rfl ?_
  refine e_box (v := .agg #[.int .i64 k, .slice a1 n1 c1, .slice a2 n2 c2, .slice a3 n3 c3]) (l := [.int .i64 k, .slice a1 n1 c1, .slice a2 n2 c2, .slice a3 n3 c3]) rfl rfl ?_
  intro b_1
  refine s_y (v := .int .i64 0) (y_assign rfl) rfl ?_
  refine wpL_nil ?_
  refine thenS_n ?_
  refine wpS_seq ?_
  refine wpS_seq ?_
  refine wpS_region ?_
  refine s_y (v := .pointer (some ⟨b_1, 0, none⟩)) (y_fieldAddr (o' := 0) rfl Try.underlying84 rfl Try.sizeOf3 (by decide) rfl) rfl ?_
  refine s_y (v := .int .i64 k) (y_load1 rfl Try.isAgg3 (own1 .h rfl)) rfl ?_
  refine s_y (v := .bool (decide ((k : Int) < 1))) (y_lss (a := k) (b := 1) rfl rfl rfl) rfl ?_
  refine s_y (v := .bool (decide ((k : Int) < 1))) (y_move rfl) rfl ?_
  rcases Bool.eq_false_or_eq_true (decide ((k : Int) < 1)) with b2 | b2
  · -- decide ((k : Int) < 1) True
    have p2 := of_decide_eq_true b2
    refine s_no rfl rfl rfl rfl (b' := decide ((k : Int) < 1)) rfl b2 ?_
    refine s_no rfl rfl rfl rfl (b' := decide ((k : Int) < 1)) rfl b2 ?_
    refine s_no rfl rfl rfl rfl (b' := decide ((k : Int) < 1)) rfl b2 ?_
    refine s_y (v := .bool true) (y_pickT (b := decide ((k : Int) < 1)) (v := .bool true) rfl b2 rfl) rfl ?_
    refine s_y (v := .bool true) (y_move rfl) rfl ?_
    refine s_no rfl rfl rfl rfl rfl rfl ?_
    refine s_no rfl rfl rfl rfl rfl rfl ?_
    refine s_no rfl rfl rfl rfl rfl rfl ?_
    refine s_no rfl rfl rfl rfl rfl rfl ?_
    refine s_no rfl rfl rfl rfl rfl rfl ?_
    refine s_no rfl rfl rfl rfl rfl rfl ?_
    refine s_y (v := .bool true) (y_pickT (v := .bool true) rfl rfl rfl) rfl ?_
    refine s_y (v := .bool true) (y_move rfl) rfl ?_
    refine s_no rfl rfl rfl rfl rfl rfl ?_
    refine s_no rfl rfl rfl rfl rfl rfl ?_
    refine s_no rfl rfl rfl rfl rfl rfl ?_
    refine s_no rfl rfl rfl rfl rfl rfl ?_
    refine s_y (v := .bool true) (y_pickT (v := .bool true) rfl rfl rfl) rfl ?_
    refine s_y (v := .bool true) (y_move rfl) rfl ?_
    refine s_no rfl rfl rfl rfl rfl rfl ?_
    refine s_no rfl rfl rfl rfl rfl rfl ?_
    refine s_no rfl rfl rfl rfl rfl rfl ?_
    refine s_no rfl rfl rfl rfl rfl rfl ?_
    refine s_y (v := .bool true) (y_pickT (v := .bool true) rfl rfl rfl) rfl ?_
    refine wpL_nil ?_
    refine thenS_n ?_
    refine wpS_cond_t rfl ?_
    refine wpS_seq ?_
    refine wpS_region ?_
    refine s_y (v := .int .i64 8) (y_assign rfl) rfl ?_
    refine wpL_nil ?_
    refine thenS_n ?_
    refine wpS_ret ?_
    refine thenS_r ?_
    refine fin1 (v := .int .i64 8) (.inr rfl) (.nil) Try.results93 rfl ?_
    exact fun w' hs => ⟨congrArg (fun z : Int => Ending.returned (.int .i64 z)) ((chk_8 (by first | exact chk_n0 (by omega) | exact chk_n1 (by assumption) | exact chk_n2 (by assumption) | exact chk_n3 (by assumption))).symm), hs⟩
  · -- decide ((k : Int) < 1) False
    have p2 := of_decide_eq_false b2
    refine s_gy (y_fieldAddr (o' := 0) rfl Try.underlying84 rfl Try.sizeOf3 (by decide) rfl) rfl rfl rfl rfl (b' := decide ((k : Int) < 1)) rfl b2 ?_
    refine s_gy (y_load1 rfl Try.isAgg3 (own1 .h rfl)) rfl rfl rfl rfl (b' := decide ((k : Int) < 1)) rfl b2 ?_
    refine s_gy (y_gtr (a := k) (b := 4) rfl rfl rfl) rfl rfl rfl rfl (b' := decide ((k : Int) < 1)) rfl b2 ?_
    refine s_y (v := .bool (decide ((4 : Int) < k))) (y_pickF (b := decide ((k : Int) < 1)) (v := .bool (decide ((4 : Int) < k))) rfl b2 rfl) rfl ?_
    refine s_y (v := .bool (decide ((4 : Int) < k))) (y_move rfl) rfl ?_
    rcases Bool.eq_false_or_eq_true (decide ((4 : Int) < k)) with b3 | b3
    · -- decide ((4 : Int) < k) True
      have p3 := of_decide_eq_true b3
      refine s_no rfl rfl rfl rfl (b' := decide ((4 : Int) < k)) rfl b3 ?_
      refine s_no rfl rfl rfl rfl (b' := decide ((4 : Int) < k)) rfl b3 ?_
      refine s_no rfl rfl rfl rfl (b' := decide ((4 : Int) < k)) rfl b3 ?_
      refine s_no rfl rfl rfl rfl (b' := decide ((4 : Int) < k)) rfl b3 ?_
      refine s_no rfl rfl rfl rfl (b' := decide ((4 : Int) < k)) rfl b3 ?_
      refine s_no rfl rfl rfl rfl (b' := decide ((4 : Int) < k)) rfl b3 ?_
      refine s_y (v := .bool true) (y_pickT (b := decide ((4 : Int) < k)) (v := .bool true) rfl b3 rfl) rfl ?_
      refine s_y (v := .bool true) (y_move rfl) rfl ?_
      refine s_no rfl rfl rfl rfl rfl rfl ?_
      refine s_no rfl rfl rfl rfl rfl rfl ?_
      refine s_no rfl rfl rfl rfl rfl rfl ?_
      refine s_no rfl rfl rfl rfl rfl rfl ?_
      refine s_y (v := .bool true) (y_pickT (v := .bool true) rfl rfl rfl) rfl ?_
      refine s_y (v := .bool true) (y_move rfl) rfl ?_
      refine s_no rfl rfl rfl rfl rfl rfl ?_
      refine s_no rfl rfl rfl rfl rfl rfl ?_
      refine s_no rfl rfl rfl rfl rfl rfl ?_
      refine s_no rfl rfl rfl rfl rfl rfl ?_
      refine s_y (v := .bool true) (y_pickT (v := .bool true) rfl rfl rfl) rfl ?_
      refine wpL_nil ?_
      refine thenS_n ?_
      refine wpS_cond_t rfl ?_
      refine wpS_seq ?_
      refine wpS_region ?_
      refine s_y (v := .int .i64 8) (y_assign rfl) rfl ?_
      refine wpL_nil ?_
      refine thenS_n ?_
      refine wpS_ret ?_
      refine thenS_r ?_
      refine fin1 (v := .int .i64 8) (.inr rfl) (.nil) Try.results93 rfl ?_
      exact fun w' hs => ⟨congrArg (fun z : Int => Ending.returned (.int .i64 z)) ((chk_8 (by first | exact chk_n0 (by omega) | exact chk_n1 (by assumption) | exact chk_n2 (by assumption) | exact chk_n3 (by assumption))).symm), hs⟩
    · -- decide ((4 : Int) < k) False
      have p3 := of_decide_eq_false b3
      refine s_gy (y_fieldAddr (o' := 1) rfl Try.underlying84 rfl Try.sizeOf82 (by decide) rfl) rfl rfl rfl rfl (b' := decide ((4 : Int) < k)) rfl b3 ?_
      refine s_gy (y_load1 rfl Try.isAgg82 (own1 .h rfl)) rfl rfl rfl rfl (b' := decide ((4 : Int) < k)) rfl b3 ?_
      refine s_gy (y_fieldAddr (o' := 0) rfl Try.underlying84 rfl Try.sizeOf3 (by decide) rfl) rfl rfl rfl rfl (b' := decide ((4 : Int) < k)) rfl b3 ?_
      refine s_gy (y_load1 rfl Try.isAgg3 (own1 .h rfl)) rfl rfl rfl rfl (b' := decide ((4 : Int) < k)) rfl b3 ?_
      refine s_gy (y_call (args := #[.slice a1 n1 c1, .int .i64 k]) (v := .bool (partOk k l1)) Try.call181 (ev2 rfl rfl) (fun w hs => rpart_c a1 n1 c1 l1 k w hn1 ((oldR hr1) w hs) (by omega))) rfl rfl rfl rfl (b' := decide ((4 : Int) < k)) rfl b3 ?_
      refine s_gy (y_not (b := partOk k l1) rfl) rfl rfl rfl rfl (b' := decide ((4 : Int) < k)) rfl b3 ?_
      refine s_y (v := .bool (!(partOk k l1))) (y_pickF (b := decide ((4 : Int) < k)) (v := .bool (!(partOk k l1))) rfl b3 rfl) rfl ?_
      refine s_y (v := .bool (!(partOk k l1))) (y_move rfl) rfl ?_
      rcases Bool.eq_false_or_eq_true (!(partOk k l1)) with b4 | b4
      · -- !(partOk k l1) True
        have b5 : (partOk k l1) = false := by simpa using b4
        refine s_no rfl rfl rfl rfl (b' := !(partOk k l1)) rfl b4 ?_
        refine s_no rfl rfl rfl rfl (b' := !(partOk k l1)) rfl b4 ?_
        refine s_no rfl rfl rfl rfl (b' := !(partOk k l1)) rfl b4 ?_
        refine s_no rfl rfl rfl rfl (b' := !(partOk k l1)) rfl b4 ?_
        refine s_y (v := .bool true) (y_pickT (b := !(partOk k l1)) (v := .bool true) rfl b4 rfl) rfl ?_
        refine s_y (v := .bool true) (y_move rfl) rfl ?_
        refine s_no rfl rfl rfl rfl rfl rfl ?_
        refine s_no rfl rfl rfl rfl rfl rfl ?_
        refine s_no rfl rfl rfl rfl rfl rfl ?_
        refine s_no rfl rfl rfl rfl rfl rfl ?_
        refine s_y (v := .bool true) (y_pickT (v := .bool true) rfl rfl rfl) rfl ?_
        refine wpL_nil ?_
        refine thenS_n ?_
        refine wpS_cond_t rfl ?_
        refine wpS_seq ?_
        refine wpS_region ?_
        refine s_y (v := .int .i64 8) (y_assign rfl) rfl ?_
        refine wpL_nil ?_
        refine thenS_n ?_
        refine wpS_ret ?_
        refine thenS_r ?_
        refine fin1 (v := .int .i64 8) (.inr rfl) (.nil) Try.results93 rfl ?_
        exact fun w' hs => ⟨congrArg (fun z : Int => Ending.returned (.int .i64 z)) ((chk_8 (by first | exact chk_n0 (by omega) | exact chk_n1 (by assumption) | exact chk_n2 (by assumption) | exact chk_n3 (by assumption))).symm), hs⟩
      · -- !(partOk k l1) False
        have b6 : (partOk k l1) = true := by simpa using b4
        refine s_gy (y_fieldAddr (o' := 2) rfl Try.underlying84 rfl Try.sizeOf82 (by decide) rfl) rfl rfl rfl rfl (b' := !(partOk k l1)) rfl b4 ?_
        refine s_gy (y_load1 rfl Try.isAgg82 (own1 .h rfl)) rfl rfl rfl rfl (b' := !(partOk k l1)) rfl b4 ?_
        refine s_gy (y_call (args := #[.slice a2 n2 c2, .int .i64 0]) (v := .bool (partOk 0 l2)) Try.call181 (ev2 rfl rfl) (fun w hs => rpart_c a2 n2 c2 l2 0 w hn2 ((oldR hr2) w hs) (by omega))) rfl rfl rfl rfl (b' := !(partOk k l1)) rfl b4 ?_
        refine s_gy (y_not (b := partOk 0 l2) rfl) rfl rfl rfl rfl (b' := !(partOk k l1)) rfl b4 ?_
        refine s_y (v := .bool (!(partOk 0 l2))) (y_pickF (b := !(partOk k l1)) (v := .bool (!(partOk 0 l2))) rfl b4 rfl) rfl ?_
        refine s_y (v := .bool (!(partOk 0 l2))) (y_move rfl) rfl ?_
        rcases Bool.eq_false_or_eq_true (!(partOk 0 l2)) with b7 | b7
        · -- !(partOk 0 l2) True
          have b8 : (partOk 0 l2) = false := by simpa using b7
          refine s_no rfl rfl rfl rfl (b' := !(partOk 0 l2)) rfl b7 ?_
          refine s_no rfl rfl rfl rfl (b' := !(partOk 0 l2)) rfl b7 ?_
          refine s_no rfl rfl rfl rfl (b' := !(partOk 0 l2)) rfl b7 ?_
          refine s_no rfl rfl rfl rfl (b' := !(partOk 0 l2)) rfl b7 ?_
          refine s_y (v := .bool true) (y_pickT (b := !(partOk 0 l2)) (v := .bool true) rfl b7 rfl) rfl ?_
          refine wpL_nil ?_
          refine thenS_n ?_
          refine wpS_cond_t rfl ?_
          refine wpS_seq ?_
          refine wpS_region ?_
          refine s_y (v := .int .i64 8) (y_assign rfl) rfl ?_
          refine wpL_nil ?_
          refine thenS_n ?_
          refine wpS_ret ?_
          refine thenS_r ?_
          refine fin1 (v := .int .i64 8) (.inr rfl) (.nil) Try.results93 rfl ?_
          exact fun w' hs => ⟨congrArg (fun z : Int => Ending.returned (.int .i64 z)) ((chk_8 (by first | exact chk_n0 (by omega) | exact chk_n1 (by assumption) | exact chk_n2 (by assumption) | exact chk_n3 (by assumption))).symm), hs⟩
        · -- !(partOk 0 l2) False
          have b9 : (partOk 0 l2) = true := by simpa using b7
          refine s_gy (y_fieldAddr (o' := 3) rfl Try.underlying84 rfl Try.sizeOf82 (by decide) rfl) rfl rfl rfl rfl (b' := !(partOk 0 l2)) rfl b7 ?_
          refine s_gy (y_load1 rfl Try.isAgg82 (own1 .h rfl)) rfl rfl rfl rfl (b' := !(partOk 0 l2)) rfl b7 ?_
          refine s_gy (y_call (args := #[.slice a3 n3 c3, .int .i64 0]) (v := .bool (partOk 0 l3)) Try.call181 (ev2 rfl rfl) (fun w hs => rpart_c a3 n3 c3 l3 0 w hn3 ((oldR hr3) w hs) (by omega))) rfl rfl rfl rfl (b' := !(partOk 0 l2)) rfl b7 ?_
          refine s_gy (y_not (b := partOk 0 l3) rfl) rfl rfl rfl rfl (b' := !(partOk 0 l2)) rfl b7 ?_
          refine s_y (v := .bool (!(partOk 0 l3))) (y_pickF (b := !(partOk 0 l2)) (v := .bool (!(partOk 0 l3))) rfl b7 rfl) rfl ?_
          refine wpL_nil ?_
          refine thenS_n ?_
          refine wpS_cond (t := !(partOk 0 l3)) rfl (fun b10 => ?_) (fun b10 => ?_)
          · -- !(partOk 0 l3) true
            have b11 : (partOk 0 l3) = false := by simpa using b10
            refine wpS_seq ?_
            refine wpS_region ?_
            refine s_y (v := .int .i64 8) (y_assign rfl) rfl ?_
            refine wpL_nil ?_
            refine thenS_n ?_
            refine wpS_ret ?_
            refine thenS_r ?_
            refine fin1 (v := .int .i64 8) (.inr rfl) (.nil) Try.results93 rfl ?_
            exact fun w' hs => ⟨congrArg (fun z : Int => Ending.returned (.int .i64 z)) ((chk_8 (by first | exact chk_n0 (by omega) | exact chk_n1 (by assumption) | exact chk_n2 (by assumption) | exact chk_n3 (by assumption))).symm), hs⟩
          · -- !(partOk 0 l3) false
            have b12 : (partOk 0 l3) = true := by simpa using b10
            refine wpS_skip ?_
            refine thenS_n ?_
            refine wpS_seq ?_
            refine wpS_region ?_
            refine s_y (v := .int .i64 0) (y_assign rfl) rfl ?_
            refine wpL_nil ?_
            refine thenS_n ?_
            refine wpS_ret ?_
            refine fin1 (v := .int .i64 0) (.inr rfl) (.nil) Try.results93 rfl ?_
            exact fun w' hs => ⟨congrArg (fun z : Int => Ending.returned (.int .i64 z)) ((chk_0 (chk_all (by omega) (by omega) (by assumption) (by assumption) (by assumption))).symm), hs⟩

end Go.Proofs.Ytldkjjnjdjfipaa
