/- RPshape: a part of it: what its walk and its plain law need. -/
import Derived.WalkKit
import Derived.WalkSpells
import Derived.WalkLawsBesides
import Derived.TacticsIn
import Derived.OrdersIn
import Derived.RangeFuncIn
import Derived.RangeFuncLeaves
import Derived.RangeFuncRecord
import Derived.KernelRfl
import Derived.Maps.AppendAt
import Derived.Laws.Cover3
import Derived.Laws.MakeOwn
import Derived.Test.YtldkjjnjdjfipaaRows
import Derived.ChangeKeysEq
import Derived.Test.YtldkjjnjdjfipaaZPH4
namespace Go.Proofs.Ytldkjjnjdjfipaa
open Go Go.RowKit
set_option linter.unusedVariables false
set_option linter.unusedSimpArgs false
set_option maxRecDepth 10000
set_option maxHeartbeats 1000000
theorem op_noR {k : Int} {o : Opc} (h : o.o0 < 1 ∨ 12 < o.o0 ∨ o.o1 < 0 ∨ 8 ≤ o.o1 ∨ o.o2 < 0 ∨ 8 ≤ o.o2 ∨ o.o3 < 0 ∨ 8 ≤ o.o3 ∨ o.o4 < 0 ∨ 8 ≤ o.o4) : opOk k o = false := by
  rw [Bool.eq_false_iff]
  intro h2
  have := op_regs h2
  omega
theorem op_yesR {k : Int} {o : Opc} (h : 1 ≤ o.o0 ∧ o.o0 ≤ 12 ∧ 0 ≤ o.o1 ∧ o.o1 < 8 ∧ 0 ≤ o.o2 ∧ o.o2 < 8 ∧ 0 ≤ o.o3 ∧ o.o3 < 8 ∧ 0 ≤ o.o4 ∧ o.o4 < 8) (h3 : o.o0 = 12 → 0 ≤ o.o5.toInt ∧ o.o5.toInt < k) : opOk k o = true := by
  unfold opOk rOk
  by_cases h4 : o.o0 = 12
  · have := h3 h4
    simp [h4]
    omega
  · simp [h4]
    omega
theorem part_end {k : Int} {l : List Opc} {i : Nat} (hi : l.length ≤ i) (h : (l.take i).all (opOk k) = true) {z : Nat} (hz : l.length = z) : partOk k l = decide (z ≤ 40) := by
  rw [List.take_of_length_le hi] at h
  unfold partOk
  rw [h, Bool.and_true, hz]
theorem rpart_c (ga : Option Addr) (gn gc : Nat) (l : List Opc) (k : Int) (w : World) (hn : l.length = gn) (hr : Rds w ga (l.flatMap opcV)) (hb : gn ≤ 9223372036854775807) : Pure Try.prog 181 #[.slice ga gn gc, .int .i64 k] w (.bool (partOk k l)) := by
 refine calls_S (n := 82) (σ0 := (upd (upd fr0 0 (.slice ga gn gc)) 1 (.int .i64 k))) (D := []) (A := []) Try.func181 rfl Try.ntmps181 rfl (a2_fr _ _) (SH.start w) ?_
 refine wpS_seq ?_
 refine wpS_region ?_
 refine s_y (v := .bool false) (y_assign rfl) rfl ?_
 refine wpL_nil ?_
 refine thenS_n ?_
 refine wpS_seq ?_
 refine wpS_seq ?_
 refine wpS_region ?_
 refine s_y (v := .int .i64 0) (y_assign rfl) rfl ?_
 refine wpL_nil ?_
 refine thenS_n ?_
 refine wpS_block ?_
 refine wpS_loop (fun mez ds σ L => ∃ i : Nat, mez = gn - i ∧ (i ≤ gn) ∧ ((l.take i).all (opOk k) = true) ∧ ds = [] ∧ σ 0 = .slice ga gn gc ∧ σ 1 = .int .i64 k ∧ σ 5 = .int .i64 (((i : Nat) : Int)) ∧ Ent L []) (m0 := gn - 0) ⟨0, rfl, by omega, by simp, rfl, rfl, rfl, rfl, .nil⟩ ?_
 rintro mez ds σ L ⟨i, hm_1, hf0_1, hf1_1, rfl, h0_1, h1_1, h5_1, hE_1⟩
 refine wpS_ent hE_1 ?_; clear hE_1
 refine wpS_seq ?_
 refine wpS_seq ?_
 refine wpS_region ?_
 refine s_y (v := .int .i64 (((i : Nat) : Int))) (y_move h5_1) rfl ?_
 refine s_y (v := .slice ga gn gc) (y_move h0_1) rfl ?_
 refine s_y (v := .int .i64 (((gn : Nat) : Int))) (y_len (ty' := 0) (at_ := #[]) rfl Try.underlying82) rfl ?_
 refine s_y (v := .bool (decide (i < gn))) (y_lss (a := ((i : Nat) : Int)) (b := ((gn : Nat) : Int)) (c := decide (i < gn)) rfl rfl (decide_eq_decide.2 (by omega))) rfl ?_
 refine wpL_nil ?_
 refine thenS_n ?_
 refine wpS_cond (t := decide (i < gn)) rfl (fun b2 => ?_) (fun b2 => ?_)
 ·
  have p2 := of_decide_eq_true b2
  refine wpS_skip ?_
  refine thenS_n ?_
  refine wpS_seq ?_
  refine wpS_block ?_
  refine wpS_seq ?_
  refine wpS_region ?_
  refine s_y (v := .slice ga gn gc) (y_move h0_1) rfl ?_
  refine s_y (v := .int .i64 (((i : Nat) : Int))) (y_move h5_1) rfl ?_
  refine s_y (v := .pointer (some ⟨aB ga, aO ga + i * 6, none⟩)) (y_idx (o := i * 6) rfl rfl Try.underlying82 Try.sizeOf86 (oldR hr) ((fl_len opcV_len _).trans (by first | omega | (simp only [List.length_set, List.length_take, List.length_drop]; done) | (simp only [List.length_set, List.length_take, List.length_drop]; omega))) (by decide) (by omega) (by omega) (by omega)) rfl ?_
  refine s_y (v := .agg #[.int .i64 ((l.getD i default).o0), .int .i64 ((l.getD i default).o1), .int .i64 ((l.getD i default).o2), .int .i64 ((l.getD i default).o3), .int .i64 ((l.getD i default).o4), .int .i64 (((l.getD i default).o5).toInt)]) (y_loadN (vs := opcV (l.getD i default)) rfl Try.isAgg86 Try.sizeOf86 (rdN (oldR hr) (fl_getN opcV_len l i (by first | omega | (simp only [List.length_set, List.length_take, List.length_drop]; done) | (simp only [List.length_set, List.length_take, List.length_drop]; omega))))) rfl ?_
  refine s_e rfl ?_
  refine e_alloc (l := [.int .i64 0, .int .i64 0, .int .i64 0, .int .i64 0, .int .i64 0, .int .i64 0]) Try.zeroValue86 rfl ?_
  intro b_3
  refine s_e0 ?_
  refine e_store (vs := [.int .i64 ((l.getD i default).o0), .int .i64 ((l.getD i default).o1), .int .i64 ((l.getD i default).o2), .int .i64 ((l.getD i default).o3), .int .i64 ((l.getD i default).o4), .int .i64 (((l.getD i default).o5).toInt)]) (l' := [.int .i64 ((l.getD i default).o0), .int .i64 ((l.getD i default).o1), .int .i64 ((l.getD i default).o2), .int .i64 ((l.getD i default).o3), .int .i64 ((l.getD i default).o4), .int .i64 (((l.getD i default).o5).toInt)]) rfl rfl rfl rfl Try.sizeOf86 .h (Nat.le_of_ble_eq_true rfl) rfl ?_
  refine wpL_nil ?_
  refine thenS_n ?_
  refine wpS_seq ?_
  refine wpS_seq ?_
  refine wpS_region ?_
  refine s_y (v := .pointer (some ⟨b_3, 0, none⟩)) (y_fieldAddr (o' := 0) rfl Try.underlying86 rfl Try.sizeOf3 (by decide) rfl) rfl ?_
  refine s_y (v := .int .i64 ((l.getD i default).o0)) (y_load1 rfl Try.isAgg3 (own1 .h rfl)) rfl ?_
  refine s_y (v := .bool (decide (((l.getD i default).o0 : Int) < 1))) (y_lss (a := (l.getD i default).o0) (b := 1) rfl rfl rfl) rfl ?_
  refine s_y (v := .bool (decide (((l.getD i default).o0 : Int) < 1))) (y_move rfl) rfl ?_
  rcases Bool.eq_false_or_eq_true (decide (((l.getD i default).o0 : Int) < 1)) with b4 | b4
  ·
   have p4 := of_decide_eq_true b4
   refine s_no rfl rfl rfl rfl (b' := decide (((l.getD i default).o0 : Int) < 1)) rfl b4 ?_
   refine s_no rfl rfl rfl rfl (b' := decide (((l.getD i default).o0 : Int) < 1)) rfl b4 ?_
   refine s_no rfl rfl rfl rfl (b' := decide (((l.getD i default).o0 : Int) < 1)) rfl b4 ?_
   refine s_y (v := .bool true) (y_pickT (b := decide (((l.getD i default).o0 : Int) < 1)) (v := .bool true) rfl b4 rfl) rfl ?_
   refine s_y (v := .bool true) (y_move rfl) rfl ?_
   refine s_no rfl rfl rfl rfl rfl rfl ?_
   refine s_no rfl rfl rfl rfl rfl rfl ?_
   refine s_no rfl rfl rfl rfl rfl rfl ?_
   refine s_y (v := .bool true) (y_pickT (v := .bool true) rfl rfl rfl) rfl ?_
   refine s_y (v := .bool true) (y_move rfl) rfl ?_
   refine s_no rfl rfl rfl rfl rfl rfl ?_
   refine s_no rfl rfl rfl rfl rfl rfl ?_
   refine s_no rfl rfl rfl rfl rfl rfl ?_
   refine s_y (v := .bool true) (y_pickT (v := .bool true) rfl rfl rfl) rfl ?_
   refine s_y (v := .bool true) (y_move rfl) rfl ?_
   refine s_no rfl rfl rfl rfl rfl rfl ?_
   refine s_no rfl rfl rfl rfl rfl rfl ?_
   refine s_no rfl rfl rfl rfl rfl rfl ?_
   refine s_y (v := .bool true) (y_pickT (v := .bool true) rfl rfl rfl) rfl ?_
   refine s_y (v := .bool true) (y_move rfl) rfl ?_
   refine s_no rfl rfl rfl rfl rfl rfl ?_
   refine s_no rfl rfl rfl rfl rfl rfl ?_
   refine s_no rfl rfl rfl rfl rfl rfl ?_
   refine s_y (v := .bool true) (y_pickT (v := .bool true) rfl rfl rfl) rfl ?_
   refine s_y (v := .bool true) (y_move rfl) rfl ?_
   refine s_no rfl rfl rfl rfl rfl rfl ?_
   refine s_no rfl rfl rfl rfl rfl rfl ?_
   refine s_no rfl rfl rfl rfl rfl rfl ?_
   refine s_y (v := .bool true) (y_pickT (v := .bool true) rfl rfl rfl) rfl ?_
   refine s_y (v := .bool true) (y_move rfl) rfl ?_
   refine s_no rfl rfl rfl rfl rfl rfl ?_
   refine s_no rfl rfl rfl rfl rfl rfl ?_
   refine s_no rfl rfl rfl rfl rfl rfl ?_
   refine s_y (v := .bool true) (y_pickT (v := .bool true) rfl rfl rfl) rfl ?_
   refine s_y (v := .bool true) (y_move rfl) rfl ?_
   refine s_no rfl rfl rfl rfl rfl rfl ?_
   refine s_no rfl rfl rfl rfl rfl rfl ?_
   refine s_no rfl rfl rfl rfl rfl rfl ?_
   refine s_y (v := .bool true) (y_pickT (v := .bool true) rfl rfl rfl) rfl ?_
   refine s_y (v := .bool true) (y_move rfl) rfl ?_
   refine s_no rfl rfl rfl rfl rfl rfl ?_
   refine s_no rfl rfl rfl rfl rfl rfl ?_
   refine s_no rfl rfl rfl rfl rfl rfl ?_
   refine s_y (v := .bool true) (y_pickT (v := .bool true) rfl rfl rfl) rfl ?_
   refine wpL_nil ?_
   refine thenS_n ?_
   refine wpS_cond_t rfl ?_
   refine wpS_seq ?_
   refine wpS_region ?_
   refine s_y (v := .bool false) (y_assign rfl) rfl ?_
   refine wpL_nil ?_
   refine thenS_n ?_
   refine wpS_ret ?_
   refine thenS_r ?_
   refine blockS_r ?_
   refine thenS_r ?_
   refine thenS_r ?_
   refine blockS_r ?_
   refine thenS_r ?_
   refine fin1 (v := .bool false) (.inr rfl) (.nil) Try.results181 rfl ?_
   exact fun w' hs => ⟨congrArg (fun b : Bool => Ending.returned (.bool b)) ((part_no (i := i) (by omega) (by first | exact op_noR (by omega) | exact op_no3 (by omega) (by omega))).symm), hs⟩
  ·
   have p4 := of_decide_eq_false b4
   refine s_gy (y_fieldAddr (o' := 0) rfl Try.underlying86 rfl Try.sizeOf3 (by decide) rfl) rfl rfl rfl rfl (b' := decide (((l.getD i default).o0 : Int) < 1)) rfl b4 ?_
   refine s_gy (y_load1 rfl Try.isAgg3 (own1 .h rfl)) rfl rfl rfl rfl (b' := decide (((l.getD i default).o0 : Int) < 1)) rfl b4 ?_
   refine s_gy (y_gtr (a := (l.getD i default).o0) (b := 12) rfl rfl rfl) rfl rfl rfl rfl (b' := decide (((l.getD i default).o0 : Int) < 1)) rfl b4 ?_
   refine s_y (v := .bool (decide ((12 : Int) < ((l.getD i default).o0)))) (y_pickF (b := decide (((l.getD i default).o0 : Int) < 1)) (v := .bool (decide ((12 : Int) < ((l.getD i default).o0)))) rfl b4 rfl) rfl ?_
   refine s_y (v := .bool (decide ((12 : Int) < ((l.getD i default).o0)))) (y_move rfl) rfl ?_
   rcases Bool.eq_false_or_eq_true (decide ((12 : Int) < ((l.getD i default).o0))) with b5 | b5
   ·
    have p5 := of_decide_eq_true b5
    refine s_no rfl rfl rfl rfl (b' := decide ((12 : Int) < ((l.getD i default).o0))) rfl b5 ?_
    refine s_no rfl rfl rfl rfl (b' := decide ((12 : Int) < ((l.getD i default).o0))) rfl b5 ?_
    refine s_no rfl rfl rfl rfl (b' := decide ((12 : Int) < ((l.getD i default).o0))) rfl b5 ?_
    refine s_y (v := .bool true) (y_pickT (b := decide ((12 : Int) < ((l.getD i default).o0))) (v := .bool true) rfl b5 rfl) rfl ?_
    refine s_y (v := .bool true) (y_move rfl) rfl ?_
    refine s_no rfl rfl rfl rfl rfl rfl ?_
    refine s_no rfl rfl rfl rfl rfl rfl ?_
    refine s_no rfl rfl rfl rfl rfl rfl ?_
    refine s_y (v := .bool true) (y_pickT (v := .bool true) rfl rfl rfl) rfl ?_
    refine s_y (v := .bool true) (y_move rfl) rfl ?_
    refine s_no rfl rfl rfl rfl rfl rfl ?_
    refine s_no rfl rfl rfl rfl rfl rfl ?_
    refine s_no rfl rfl rfl rfl rfl rfl ?_
    refine s_y (v := .bool true) (y_pickT (v := .bool true) rfl rfl rfl) rfl ?_
    refine s_y (v := .bool true) (y_move rfl) rfl ?_
    refine s_no rfl rfl rfl rfl rfl rfl ?_
    refine s_no rfl rfl rfl rfl rfl rfl ?_
    refine s_no rfl rfl rfl rfl rfl rfl ?_
    refine s_y (v := .bool true) (y_pickT (v := .bool true) rfl rfl rfl) rfl ?_
    refine s_y (v := .bool true) (y_move rfl) rfl ?_
    refine s_no rfl rfl rfl rfl rfl rfl ?_
    refine s_no rfl rfl rfl rfl rfl rfl ?_
    refine s_no rfl rfl rfl rfl rfl rfl ?_
    refine s_y (v := .bool true) (y_pickT (v := .bool true) rfl rfl rfl) rfl ?_
    refine s_y (v := .bool true) (y_move rfl) rfl ?_
    refine s_no rfl rfl rfl rfl rfl rfl ?_
    refine s_no rfl rfl rfl rfl rfl rfl ?_
    refine s_no rfl rfl rfl rfl rfl rfl ?_
    refine s_y (v := .bool true) (y_pickT (v := .bool true) rfl rfl rfl) rfl ?_
    refine s_y (v := .bool true) (y_move rfl) rfl ?_
    refine s_no rfl rfl rfl rfl rfl rfl ?_
    refine s_no rfl rfl rfl rfl rfl rfl ?_
    refine s_no rfl rfl rfl rfl rfl rfl ?_
    refine s_y (v := .bool true) (y_pickT (v := .bool true) rfl rfl rfl) rfl ?_
    refine s_y (v := .bool true) (y_move rfl) rfl ?_
    refine s_no rfl rfl rfl rfl rfl rfl ?_
    refine s_no rfl rfl rfl rfl rfl rfl ?_
    refine s_no rfl rfl rfl rfl rfl rfl ?_
    refine s_y (v := .bool true) (y_pickT (v := .bool true) rfl rfl rfl) rfl ?_
    refine wpL_nil ?_
    refine thenS_n ?_
    refine wpS_cond_t rfl ?_
    refine wpS_seq ?_
    refine wpS_region ?_
    refine s_y (v := .bool false) (y_assign rfl) rfl ?_
    refine wpL_nil ?_
    refine thenS_n ?_
    refine wpS_ret ?_
    refine thenS_r ?_
    refine blockS_r ?_
    refine thenS_r ?_
    refine thenS_r ?_
    refine blockS_r ?_
    refine thenS_r ?_
    refine fin1 (v := .bool false) (.inr rfl) (.nil) Try.results181 rfl ?_
    exact fun w' hs => ⟨congrArg (fun b : Bool => Ending.returned (.bool b)) ((part_no (i := i) (by omega) (by first | exact op_noR (by omega) | exact op_no3 (by omega) (by omega))).symm), hs⟩
   ·
    have p5 := of_decide_eq_false b5
    refine s_gy (y_fieldAddr (o' := 1) rfl Try.underlying86 rfl Try.sizeOf3 (by decide) rfl) rfl rfl rfl rfl (b' := decide ((12 : Int) < ((l.getD i default).o0))) rfl b5 ?_
    refine s_gy (y_load1 rfl Try.isAgg3 (own1 .h rfl)) rfl rfl rfl rfl (b' := decide ((12 : Int) < ((l.getD i default).o0))) rfl b5 ?_
    refine s_gy (y_lss (a := (l.getD i default).o1) (b := 0) rfl rfl rfl) rfl rfl rfl rfl (b' := decide ((12 : Int) < ((l.getD i default).o0))) rfl b5 ?_
    refine s_y (v := .bool (decide (((l.getD i default).o1 : Int) < 0))) (y_pickF (b := decide ((12 : Int) < ((l.getD i default).o0))) (v := .bool (decide (((l.getD i default).o1 : Int) < 0))) rfl b5 rfl) rfl ?_
    refine s_y (v := .bool (decide (((l.getD i default).o1 : Int) < 0))) (y_move rfl) rfl ?_
    rcases Bool.eq_false_or_eq_true (decide (((l.getD i default).o1 : Int) < 0)) with b6 | b6
    ·
     have p6 := of_decide_eq_true b6
     refine s_no rfl rfl rfl rfl (b' := decide (((l.getD i default).o1 : Int) < 0)) rfl b6 ?_
     refine s_no rfl rfl rfl rfl (b' := decide (((l.getD i default).o1 : Int) < 0)) rfl b6 ?_
     refine s_no rfl rfl rfl rfl (b' := decide (((l.getD i default).o1 : Int) < 0)) rfl b6 ?_
     refine s_y (v := .bool true) (y_pickT (b := decide (((l.getD i default).o1 : Int) < 0)) (v := .bool true) rfl b6 rfl) rfl ?_
     refine s_y (v := .bool true) (y_move rfl) rfl ?_
     refine s_no rfl rfl rfl rfl rfl rfl ?_
     refine s_no rfl rfl rfl rfl rfl rfl ?_
     refine s_no rfl rfl rfl rfl rfl rfl ?_
     refine s_y (v := .bool true) (y_pickT (v := .bool true) rfl rfl rfl) rfl ?_
     refine s_y (v := .bool true) (y_move rfl) rfl ?_
     refine s_no rfl rfl rfl rfl rfl rfl ?_
     refine s_no rfl rfl rfl rfl rfl rfl ?_
     refine s_no rfl rfl rfl rfl rfl rfl ?_
     refine s_y (v := .bool true) (y_pickT (v := .bool true) rfl rfl rfl) rfl ?_
     refine s_y (v := .bool true) (y_move rfl) rfl ?_
     refine s_no rfl rfl rfl rfl rfl rfl ?_
     refine s_no rfl rfl rfl rfl rfl rfl ?_
     refine s_no rfl rfl rfl rfl rfl rfl ?_
     refine s_y (v := .bool true) (y_pickT (v := .bool true) rfl rfl rfl) rfl ?_
     refine s_y (v := .bool true) (y_move rfl) rfl ?_
     refine s_no rfl rfl rfl rfl rfl rfl ?_
     refine s_no rfl rfl rfl rfl rfl rfl ?_
     refine s_no rfl rfl rfl rfl rfl rfl ?_
     refine s_y (v := .bool true) (y_pickT (v := .bool true) rfl rfl rfl) rfl ?_
     refine s_y (v := .bool true) (y_move rfl) rfl ?_
     refine s_no rfl rfl rfl rfl rfl rfl ?_
     refine s_no rfl rfl rfl rfl rfl rfl ?_
     refine s_no rfl rfl rfl rfl rfl rfl ?_
     refine s_y (v := .bool true) (y_pickT (v := .bool true) rfl rfl rfl) rfl ?_
     refine s_y (v := .bool true) (y_move rfl) rfl ?_
     refine s_no rfl rfl rfl rfl rfl rfl ?_
     refine s_no rfl rfl rfl rfl rfl rfl ?_
     refine s_no rfl rfl rfl rfl rfl rfl ?_
     refine s_y (v := .bool true) (y_pickT (v := .bool true) rfl rfl rfl) rfl ?_
     refine wpL_nil ?_
     refine thenS_n ?_
     refine wpS_cond_t rfl ?_
     refine wpS_seq ?_
     refine wpS_region ?_
     refine s_y (v := .bool false) (y_assign rfl) rfl ?_
     refine wpL_nil ?_
     refine thenS_n ?_
     refine wpS_ret ?_
     refine thenS_r ?_
     refine blockS_r ?_
     refine thenS_r ?_
     refine thenS_r ?_
     refine blockS_r ?_
     refine thenS_r ?_
     refine fin1 (v := .bool false) (.inr rfl) (.nil) Try.results181 rfl ?_
     exact fun w' hs => ⟨congrArg (fun b : Bool => Ending.returned (.bool b)) ((part_no (i := i) (by omega) (by first | exact op_noR (by omega) | exact op_no3 (by omega) (by omega))).symm), hs⟩
    ·
     have p6 := of_decide_eq_false b6
     refine s_gy (y_fieldAddr (o' := 1) rfl Try.underlying86 rfl Try.sizeOf3 (by decide) rfl) rfl rfl rfl rfl (b' := decide (((l.getD i default).o1 : Int) < 0)) rfl b6 ?_
     refine s_gy (y_load1 rfl Try.isAgg3 (own1 .h rfl)) rfl rfl rfl rfl (b' := decide (((l.getD i default).o1 : Int) < 0)) rfl b6 ?_
     refine s_gy (y_geq (a := (l.getD i default).o1) (b := 8) rfl rfl rfl) rfl rfl rfl rfl (b' := decide (((l.getD i default).o1 : Int) < 0)) rfl b6 ?_
     refine s_y (v := .bool (decide ((8 : Int) ≤ ((l.getD i default).o1)))) (y_pickF (b := decide (((l.getD i default).o1 : Int) < 0)) (v := .bool (decide ((8 : Int) ≤ ((l.getD i default).o1)))) rfl b6 rfl) rfl ?_
     refine s_y (v := .bool (decide ((8 : Int) ≤ ((l.getD i default).o1)))) (y_move rfl) rfl ?_
     rcases Bool.eq_false_or_eq_true (decide ((8 : Int) ≤ ((l.getD i default).o1))) with b7 | b7
     ·
      have p7 := of_decide_eq_true b7
      refine s_no rfl rfl rfl rfl (b' := decide ((8 : Int) ≤ ((l.getD i default).o1))) rfl b7 ?_
      refine s_no rfl rfl rfl rfl (b' := decide ((8 : Int) ≤ ((l.getD i default).o1))) rfl b7 ?_
      refine s_no rfl rfl rfl rfl (b' := decide ((8 : Int) ≤ ((l.getD i default).o1))) rfl b7 ?_
      refine s_y (v := .bool true) (y_pickT (b := decide ((8 : Int) ≤ ((l.getD i default).o1))) (v := .bool true) rfl b7 rfl) rfl ?_
      refine s_y (v := .bool true) (y_move rfl) rfl ?_
      refine s_no rfl rfl rfl rfl rfl rfl ?_
      refine s_no rfl rfl rfl rfl rfl rfl ?_
      refine s_no rfl rfl rfl rfl rfl rfl ?_
      refine s_y (v := .bool true) (y_pickT (v := .bool true) rfl rfl rfl) rfl ?_
      refine s_y (v := .bool true) (y_move rfl) rfl ?_
      refine s_no rfl rfl rfl rfl rfl rfl ?_
      refine s_no rfl rfl rfl rfl rfl rfl ?_
      refine s_no rfl rfl rfl rfl rfl rfl ?_
      refine s_y (v := .bool true) (y_pickT (v := .bool true) rfl rfl rfl) rfl ?_
      refine s_y (v := .bool true) (y_move rfl) rfl ?_
      refine s_no rfl rfl rfl rfl rfl rfl ?_
      refine s_no rfl rfl rfl rfl rfl rfl ?_
      refine s_no rfl rfl rfl rfl rfl rfl ?_
      refine s_y (v := .bool true) (y_pickT (v := .bool true) rfl rfl rfl) rfl ?_
      refine s_y (v := .bool true) (y_move rfl) rfl ?_
      refine s_no rfl rfl rfl rfl rfl rfl ?_
      refine s_no rfl rfl rfl rfl rfl rfl ?_
      refine s_no rfl rfl rfl rfl rfl rfl ?_
      refine s_y (v := .bool true) (y_pickT (v := .bool true) rfl rfl rfl) rfl ?_
      refine s_y (v := .bool true) (y_move rfl) rfl ?_
      refine s_no rfl rfl rfl rfl rfl rfl ?_
      refine s_no rfl rfl rfl rfl rfl rfl ?_
      refine s_no rfl rfl rfl rfl rfl rfl ?_
      refine s_y (v := .bool true) (y_pickT (v := .bool true) rfl rfl rfl) rfl ?_
      refine wpL_nil ?_
      refine thenS_n ?_
      refine wpS_cond_t rfl ?_
      refine wpS_seq ?_
      refine wpS_region ?_
      refine s_y (v := .bool false) (y_assign rfl) rfl ?_
      refine wpL_nil ?_
      refine thenS_n ?_
      refine wpS_ret ?_
      refine thenS_r ?_
      refine blockS_r ?_
      refine thenS_r ?_
      refine thenS_r ?_
      refine blockS_r ?_
      refine thenS_r ?_
      refine fin1 (v := .bool false) (.inr rfl) (.nil) Try.results181 rfl ?_
      exact fun w' hs => ⟨congrArg (fun b : Bool => Ending.returned (.bool b)) ((part_no (i := i) (by omega) (by first | exact op_noR (by omega) | exact op_no3 (by omega) (by omega))).symm), hs⟩
     ·
      have p7 := of_decide_eq_false b7
      refine s_gy (y_fieldAddr (o' := 2) rfl Try.underlying86 rfl Try.sizeOf3 (by decide) rfl) rfl rfl rfl rfl (b' := decide ((8 : Int) ≤ ((l.getD i default).o1))) rfl b7 ?_
      refine s_gy (y_load1 rfl Try.isAgg3 (own1 .h rfl)) rfl rfl rfl rfl (b' := decide ((8 : Int) ≤ ((l.getD i default).o1))) rfl b7 ?_
      refine s_gy (y_lss (a := (l.getD i default).o2) (b := 0) rfl rfl rfl) rfl rfl rfl rfl (b' := decide ((8 : Int) ≤ ((l.getD i default).o1))) rfl b7 ?_
      refine s_y (v := .bool (decide (((l.getD i default).o2 : Int) < 0))) (y_pickF (b := decide ((8 : Int) ≤ ((l.getD i default).o1))) (v := .bool (decide (((l.getD i default).o2 : Int) < 0))) rfl b7 rfl) rfl ?_
      refine s_y (v := .bool (decide (((l.getD i default).o2 : Int) < 0))) (y_move rfl) rfl ?_
      rcases Bool.eq_false_or_eq_true (decide (((l.getD i default).o2 : Int) < 0)) with b8 | b8
      ·
       have p8 := of_decide_eq_true b8
       refine s_no rfl rfl rfl rfl (b' := decide (((l.getD i default).o2 : Int) < 0)) rfl b8 ?_
       refine s_no rfl rfl rfl rfl (b' := decide (((l.getD i default).o2 : Int) < 0)) rfl b8 ?_
       refine s_no rfl rfl rfl rfl (b' := decide (((l.getD i default).o2 : Int) < 0)) rfl b8 ?_
       refine s_y (v := .bool true) (y_pickT (b := decide (((l.getD i default).o2 : Int) < 0)) (v := .bool true) rfl b8 rfl) rfl ?_
       refine s_y (v := .bool true) (y_move rfl) rfl ?_
       refine s_no rfl rfl rfl rfl rfl rfl ?_
       refine s_no rfl rfl rfl rfl rfl rfl ?_
       refine s_no rfl rfl rfl rfl rfl rfl ?_
       refine s_y (v := .bool true) (y_pickT (v := .bool true) rfl rfl rfl) rfl ?_
       refine s_y (v := .bool true) (y_move rfl) rfl ?_
       refine s_no rfl rfl rfl rfl rfl rfl ?_
       refine s_no rfl rfl rfl rfl rfl rfl ?_
       refine s_no rfl rfl rfl rfl rfl rfl ?_
       refine s_y (v := .bool true) (y_pickT (v := .bool true) rfl rfl rfl) rfl ?_
       refine s_y (v := .bool true) (y_move rfl) rfl ?_
       refine s_no rfl rfl rfl rfl rfl rfl ?_
       refine s_no rfl rfl rfl rfl rfl rfl ?_
       refine s_no rfl rfl rfl rfl rfl rfl ?_
       refine s_y (v := .bool true) (y_pickT (v := .bool true) rfl rfl rfl) rfl ?_
       refine s_y (v := .bool true) (y_move rfl) rfl ?_
       refine s_no rfl rfl rfl rfl rfl rfl ?_
       refine s_no rfl rfl rfl rfl rfl rfl ?_
       refine s_no rfl rfl rfl rfl rfl rfl ?_
       refine s_y (v := .bool true) (y_pickT (v := .bool true) rfl rfl rfl) rfl ?_
       refine wpL_nil ?_
       refine thenS_n ?_
       refine wpS_cond_t rfl ?_
       refine wpS_seq ?_
       refine wpS_region ?_
       refine s_y (v := .bool false) (y_assign rfl) rfl ?_
       refine wpL_nil ?_
       refine thenS_n ?_
       refine wpS_ret ?_
       refine thenS_r ?_
       refine blockS_r ?_
       refine thenS_r ?_
       refine thenS_r ?_
       refine blockS_r ?_
       refine thenS_r ?_
       refine fin1 (v := .bool false) (.inr rfl) (.nil) Try.results181 rfl ?_
       exact fun w' hs => ⟨congrArg (fun b : Bool => Ending.returned (.bool b)) ((part_no (i := i) (by omega) (by first | exact op_noR (by omega) | exact op_no3 (by omega) (by omega))).symm), hs⟩
      ·
       have p8 := of_decide_eq_false b8
       refine s_gy (y_fieldAddr (o' := 2) rfl Try.underlying86 rfl Try.sizeOf3 (by decide) rfl) rfl rfl rfl rfl (b' := decide (((l.getD i default).o2 : Int) < 0)) rfl b8 ?_
       refine s_gy (y_load1 rfl Try.isAgg3 (own1 .h rfl)) rfl rfl rfl rfl (b' := decide (((l.getD i default).o2 : Int) < 0)) rfl b8 ?_
       refine s_gy (y_geq (a := (l.getD i default).o2) (b := 8) rfl rfl rfl) rfl rfl rfl rfl (b' := decide (((l.getD i default).o2 : Int) < 0)) rfl b8 ?_
       refine s_y (v := .bool (decide ((8 : Int) ≤ ((l.getD i default).o2)))) (y_pickF (b := decide (((l.getD i default).o2 : Int) < 0)) (v := .bool (decide ((8 : Int) ≤ ((l.getD i default).o2)))) rfl b8 rfl) rfl ?_
       refine s_y (v := .bool (decide ((8 : Int) ≤ ((l.getD i default).o2)))) (y_move rfl) rfl ?_
       rcases Bool.eq_false_or_eq_true (decide ((8 : Int) ≤ ((l.getD i default).o2))) with b9 | b9
       ·
        have p9 := of_decide_eq_true b9
        refine s_no rfl rfl rfl rfl (b' := decide ((8 : Int) ≤ ((l.getD i default).o2))) rfl b9 ?_
        refine s_no rfl rfl rfl rfl (b' := decide ((8 : Int) ≤ ((l.getD i default).o2))) rfl b9 ?_
        refine s_no rfl rfl rfl rfl (b' := decide ((8 : Int) ≤ ((l.getD i default).o2))) rfl b9 ?_
        refine s_y (v := .bool true) (y_pickT (b := decide ((8 : Int) ≤ ((l.getD i default).o2))) (v := .bool true) rfl b9 rfl) rfl ?_
        refine s_y (v := .bool true) (y_move rfl) rfl ?_
        refine s_no rfl rfl rfl rfl rfl rfl ?_
        refine s_no rfl rfl rfl rfl rfl rfl ?_
        refine s_no rfl rfl rfl rfl rfl rfl ?_
        refine s_y (v := .bool true) (y_pickT (v := .bool true) rfl rfl rfl) rfl ?_
        refine s_y (v := .bool true) (y_move rfl) rfl ?_
        refine s_no rfl rfl rfl rfl rfl rfl ?_
        refine s_no rfl rfl rfl rfl rfl rfl ?_
        refine s_no rfl rfl rfl rfl rfl rfl ?_
        refine s_y (v := .bool true) (y_pickT (v := .bool true) rfl rfl rfl) rfl ?_
        refine s_y (v := .bool true) (y_move rfl) rfl ?_
        refine s_no rfl rfl rfl rfl rfl rfl ?_
        refine s_no rfl rfl rfl rfl rfl rfl ?_
        refine s_no rfl rfl rfl rfl rfl rfl ?_
        refine s_y (v := .bool true) (y_pickT (v := .bool true) rfl rfl rfl) rfl ?_
        refine wpL_nil ?_
        refine thenS_n ?_
        refine wpS_cond_t rfl ?_
        refine wpS_seq ?_
        refine wpS_region ?_
        refine s_y (v := .bool false) (y_assign rfl) rfl ?_
        refine wpL_nil ?_
        refine thenS_n ?_
        refine wpS_ret ?_
        refine thenS_r ?_
        refine blockS_r ?_
        refine thenS_r ?_
        refine thenS_r ?_
        refine blockS_r ?_
        refine thenS_r ?_
        refine fin1 (v := .bool false) (.inr rfl) (.nil) Try.results181 rfl ?_
        exact fun w' hs => ⟨congrArg (fun b : Bool => Ending.returned (.bool b)) ((part_no (i := i) (by omega) (by first | exact op_noR (by omega) | exact op_no3 (by omega) (by omega))).symm), hs⟩
       ·
        have p9 := of_decide_eq_false b9
        refine s_gy (y_fieldAddr (o' := 3) rfl Try.underlying86 rfl Try.sizeOf3 (by decide) rfl) rfl rfl rfl rfl (b' := decide ((8 : Int) ≤ ((l.getD i default).o2))) rfl b9 ?_
        refine s_gy (y_load1 rfl Try.isAgg3 (own1 .h rfl)) rfl rfl rfl rfl (b' := decide ((8 : Int) ≤ ((l.getD i default).o2))) rfl b9 ?_
        refine s_gy (y_lss (a := (l.getD i default).o3) (b := 0) rfl rfl rfl) rfl rfl rfl rfl (b' := decide ((8 : Int) ≤ ((l.getD i default).o2))) rfl b9 ?_
        refine s_y (v := .bool (decide (((l.getD i default).o3 : Int) < 0))) (y_pickF (b := decide ((8 : Int) ≤ ((l.getD i default).o2))) (v := .bool (decide (((l.getD i default).o3 : Int) < 0))) rfl b9 rfl) rfl ?_
        refine s_y (v := .bool (decide (((l.getD i default).o3 : Int) < 0))) (y_move rfl) rfl ?_
        rcases Bool.eq_false_or_eq_true (decide (((l.getD i default).o3 : Int) < 0)) with b10 | b10
        ·
         have p10 := of_decide_eq_true b10
         refine s_no rfl rfl rfl rfl (b' := decide (((l.getD i default).o3 : Int) < 0)) rfl b10 ?_
         refine s_no rfl rfl rfl rfl (b' := decide (((l.getD i default).o3 : Int) < 0)) rfl b10 ?_
         refine s_no rfl rfl rfl rfl (b' := decide (((l.getD i default).o3 : Int) < 0)) rfl b10 ?_
         refine s_y (v := .bool true) (y_pickT (b := decide (((l.getD i default).o3 : Int) < 0)) (v := .bool true) rfl b10 rfl) rfl ?_
         refine s_y (v := .bool true) (y_move rfl) rfl ?_
         refine s_no rfl rfl rfl rfl rfl rfl ?_
         refine s_no rfl rfl rfl rfl rfl rfl ?_
         refine s_no rfl rfl rfl rfl rfl rfl ?_
         refine s_y (v := .bool true) (y_pickT (v := .bool true) rfl rfl rfl) rfl ?_
         refine s_y (v := .bool true) (y_move rfl) rfl ?_
         refine s_no rfl rfl rfl rfl rfl rfl ?_
         refine s_no rfl rfl rfl rfl rfl rfl ?_
         refine s_no rfl rfl rfl rfl rfl rfl ?_
         refine s_y (v := .bool true) (y_pickT (v := .bool true) rfl rfl rfl) rfl ?_
         refine wpL_nil ?_
         refine thenS_n ?_
         refine wpS_cond_t rfl ?_
         refine wpS_seq ?_
         refine wpS_region ?_
         refine s_y (v := .bool false) (y_assign rfl) rfl ?_
         refine wpL_nil ?_
         refine thenS_n ?_
         refine wpS_ret ?_
         refine thenS_r ?_
         refine blockS_r ?_
         refine thenS_r ?_
         refine thenS_r ?_
         refine blockS_r ?_
         refine thenS_r ?_
         refine fin1 (v := .bool false) (.inr rfl) (.nil) Try.results181 rfl ?_
         exact fun w' hs => ⟨congrArg (fun b : Bool => Ending.returned (.bool b)) ((part_no (i := i) (by omega) (by first | exact op_noR (by omega) | exact op_no3 (by omega) (by omega))).symm), hs⟩
        ·
         have p10 := of_decide_eq_false b10
         refine s_gy (y_fieldAddr (o' := 3) rfl Try.underlying86 rfl Try.sizeOf3 (by decide) rfl) rfl rfl rfl rfl (b' := decide (((l.getD i default).o3 : Int) < 0)) rfl b10 ?_
         refine s_gy (y_load1 rfl Try.isAgg3 (own1 .h rfl)) rfl rfl rfl rfl (b' := decide (((l.getD i default).o3 : Int) < 0)) rfl b10 ?_
         refine s_gy (y_geq (a := (l.getD i default).o3) (b := 8) rfl rfl rfl) rfl rfl rfl rfl (b' := decide (((l.getD i default).o3 : Int) < 0)) rfl b10 ?_
         refine s_y (v := .bool (decide ((8 : Int) ≤ ((l.getD i default).o3)))) (y_pickF (b := decide (((l.getD i default).o3 : Int) < 0)) (v := .bool (decide ((8 : Int) ≤ ((l.getD i default).o3)))) rfl b10 rfl) rfl ?_
         refine s_y (v := .bool (decide ((8 : Int) ≤ ((l.getD i default).o3)))) (y_move rfl) rfl ?_
         rcases Bool.eq_false_or_eq_true (decide ((8 : Int) ≤ ((l.getD i default).o3))) with b11 | b11
         ·
          have p11 := of_decide_eq_true b11
          refine s_no rfl rfl rfl rfl (b' := decide ((8 : Int) ≤ ((l.getD i default).o3))) rfl b11 ?_
          refine s_no rfl rfl rfl rfl (b' := decide ((8 : Int) ≤ ((l.getD i default).o3))) rfl b11 ?_
          refine s_no rfl rfl rfl rfl (b' := decide ((8 : Int) ≤ ((l.getD i default).o3))) rfl b11 ?_
          refine s_y (v := .bool true) (y_pickT (b := decide ((8 : Int) ≤ ((l.getD i default).o3))) (v := .bool true) rfl b11 rfl) rfl ?_
          refine s_y (v := .bool true) (y_move rfl) rfl ?_
          refine s_no rfl rfl rfl rfl rfl rfl ?_
          refine s_no rfl rfl rfl rfl rfl rfl ?_
          refine s_no rfl rfl rfl rfl rfl rfl ?_
          refine s_y (v := .bool true) (y_pickT (v := .bool true) rfl rfl rfl) rfl ?_
          refine wpL_nil ?_
          refine thenS_n ?_
          refine wpS_cond_t rfl ?_
          refine wpS_seq ?_
          refine wpS_region ?_
          refine s_y (v := .bool false) (y_assign rfl) rfl ?_
          refine wpL_nil ?_
          refine thenS_n ?_
          refine wpS_ret ?_
          refine thenS_r ?_
          refine blockS_r ?_
          refine thenS_r ?_
          refine thenS_r ?_
          refine blockS_r ?_
          refine thenS_r ?_
          refine fin1 (v := .bool false) (.inr rfl) (.nil) Try.results181 rfl ?_
          exact fun w' hs => ⟨congrArg (fun b : Bool => Ending.returned (.bool b)) ((part_no (i := i) (by omega) (by first | exact op_noR (by omega) | exact op_no3 (by omega) (by omega))).symm), hs⟩
         ·
          have p11 := of_decide_eq_false b11
          refine s_gy (y_fieldAddr (o' := 4) rfl Try.underlying86 rfl Try.sizeOf3 (by decide) rfl) rfl rfl rfl rfl (b' := decide ((8 : Int) ≤ ((l.getD i default).o3))) rfl b11 ?_
          refine s_gy (y_load1 rfl Try.isAgg3 (own1 .h rfl)) rfl rfl rfl rfl (b' := decide ((8 : Int) ≤ ((l.getD i default).o3))) rfl b11 ?_
          refine s_gy (y_lss (a := (l.getD i default).o4) (b := 0) rfl rfl rfl) rfl rfl rfl rfl (b' := decide ((8 : Int) ≤ ((l.getD i default).o3))) rfl b11 ?_
          refine s_y (v := .bool (decide (((l.getD i default).o4 : Int) < 0))) (y_pickF (b := decide ((8 : Int) ≤ ((l.getD i default).o3))) (v := .bool (decide (((l.getD i default).o4 : Int) < 0))) rfl b11 rfl) rfl ?_
          refine s_y (v := .bool (decide (((l.getD i default).o4 : Int) < 0))) (y_move rfl) rfl ?_
          rcases Bool.eq_false_or_eq_true (decide (((l.getD i default).o4 : Int) < 0)) with b12 | b12
          ·
           have p12 := of_decide_eq_true b12
           refine s_no rfl rfl rfl rfl (b' := decide (((l.getD i default).o4 : Int) < 0)) rfl b12 ?_
           refine s_no rfl rfl rfl rfl (b' := decide (((l.getD i default).o4 : Int) < 0)) rfl b12 ?_
           refine s_no rfl rfl rfl rfl (b' := decide (((l.getD i default).o4 : Int) < 0)) rfl b12 ?_
           refine s_y (v := .bool true) (y_pickT (b := decide (((l.getD i default).o4 : Int) < 0)) (v := .bool true) rfl b12 rfl) rfl ?_
           refine wpL_nil ?_
           refine thenS_n ?_
           refine wpS_cond_t rfl ?_
           refine wpS_seq ?_
           refine wpS_region ?_
           refine s_y (v := .bool false) (y_assign rfl) rfl ?_
           refine wpL_nil ?_
           refine thenS_n ?_
           refine wpS_ret ?_
           refine thenS_r ?_
           refine blockS_r ?_
           refine thenS_r ?_
           refine thenS_r ?_
           refine blockS_r ?_
           refine thenS_r ?_
           refine fin1 (v := .bool false) (.inr rfl) (.nil) Try.results181 rfl ?_
           exact fun w' hs => ⟨congrArg (fun b : Bool => Ending.returned (.bool b)) ((part_no (i := i) (by omega) (by first | exact op_noR (by omega) | exact op_no3 (by omega) (by omega))).symm), hs⟩
          ·
           have p12 := of_decide_eq_false b12
           refine s_gy (y_fieldAddr (o' := 4) rfl Try.underlying86 rfl Try.sizeOf3 (by decide) rfl) rfl rfl rfl rfl (b' := decide (((l.getD i default).o4 : Int) < 0)) rfl b12 ?_
           refine s_gy (y_load1 rfl Try.isAgg3 (own1 .h rfl)) rfl rfl rfl rfl (b' := decide (((l.getD i default).o4 : Int) < 0)) rfl b12 ?_
           refine s_gy (y_geq (a := (l.getD i default).o4) (b := 8) rfl rfl rfl) rfl rfl rfl rfl (b' := decide (((l.getD i default).o4 : Int) < 0)) rfl b12 ?_
           refine s_y (v := .bool (decide ((8 : Int) ≤ ((l.getD i default).o4)))) (y_pickF (b := decide (((l.getD i default).o4 : Int) < 0)) (v := .bool (decide ((8 : Int) ≤ ((l.getD i default).o4)))) rfl b12 rfl) rfl ?_
           refine wpL_nil ?_
           refine thenS_n ?_
           refine wpS_cond (t := decide ((8 : Int) ≤ ((l.getD i default).o4))) rfl (fun b13 => ?_) (fun b13 => ?_)
           ·
            have p13 := of_decide_eq_true b13
            refine wpS_seq ?_
            refine wpS_region ?_
            refine s_y (v := .bool false) (y_assign rfl) rfl ?_
            refine wpL_nil ?_
            refine thenS_n ?_
            refine wpS_ret ?_
            refine thenS_r ?_
            refine blockS_r ?_
            refine thenS_r ?_
            refine thenS_r ?_
            refine blockS_r ?_
            refine thenS_r ?_
            refine fin1 (v := .bool false) (.inr rfl) (.nil) Try.results181 rfl ?_
            exact fun w' hs => ⟨congrArg (fun b : Bool => Ending.returned (.bool b)) ((part_no (i := i) (by omega) (by first | exact op_noR (by omega) | exact op_no3 (by omega) (by omega))).symm), hs⟩
           ·
            have p13 := of_decide_eq_false b13
            refine wpS_skip ?_
            refine thenS_n ?_
            refine wpS_seq ?_
            refine wpS_region ?_
            refine s_y (v := .pointer (some ⟨b_3, 0, none⟩)) (y_fieldAddr (o' := 0) rfl Try.underlying86 rfl Try.sizeOf3 (by decide) rfl) rfl ?_
            refine s_y (v := .int .i64 ((l.getD i default).o0)) (y_load1 rfl Try.isAgg3 (own1 .h rfl)) rfl ?_
            refine s_y (v := .bool (decide (((l.getD i default).o0 : Int) = 12))) (y_eql (a := (l.getD i default).o0) (b := 12) rfl rfl rfl) rfl ?_
            refine s_y (v := .bool (decide (((l.getD i default).o0 : Int) = 12))) (y_move rfl) rfl ?_
            rcases Bool.eq_false_or_eq_true (decide (((l.getD i default).o0 : Int) = 12)) with b14 | b14
            ·
             have p14 := of_decide_eq_true b14
             refine s_gy (y_fieldAddr (o' := 5) rfl Try.underlying86 rfl Try.sizeOf2 (by decide) rfl) rfl rfl rfl rfl (b' := decide (((l.getD i default).o0 : Int) = 12)) rfl b14 ?_
             refine s_gy (y_load1 rfl Try.isAgg2 (own1 .h rfl)) rfl rfl rfl rfl (b' := decide (((l.getD i default).o0 : Int) = 12)) rfl b14 ?_
             refine s_gy (y_lss (a := ((l.getD i default).o5).toInt) (b := 0) rfl rfl rfl) rfl rfl rfl rfl (b' := decide (((l.getD i default).o0 : Int) = 12)) rfl b14 ?_
             refine s_gy (y_move rfl) rfl rfl rfl rfl (b' := decide (((l.getD i default).o0 : Int) = 12)) rfl b14 ?_
             rcases Bool.eq_false_or_eq_true (decide ((((l.getD i default).o5).toInt : Int) < 0)) with b15 | b15
             ·
              have p15 := of_decide_eq_true b15
              refine s_no rfl rfl rfl rfl (b' := decide ((((l.getD i default).o5).toInt : Int) < 0)) rfl b15 ?_
              refine s_no rfl rfl rfl rfl (b' := decide ((((l.getD i default).o5).toInt : Int) < 0)) rfl b15 ?_
              refine s_no rfl rfl rfl rfl (b' := decide ((((l.getD i default).o5).toInt : Int) < 0)) rfl b15 ?_
              refine s_no rfl rfl rfl rfl (b' := decide ((((l.getD i default).o5).toInt : Int) < 0)) rfl b15 ?_
              refine s_gy (y_pickT (b := decide ((((l.getD i default).o5).toInt : Int) < 0)) (v := .bool true) rfl b15 rfl) rfl rfl rfl rfl (b' := decide (((l.getD i default).o0 : Int) = 12)) rfl b14 ?_
              refine s_y (v := .bool true) (y_pickT (b := decide (((l.getD i default).o0 : Int) = 12)) (v := .bool true) rfl b14 rfl) rfl ?_
              refine wpL_nil ?_
              refine thenS_n ?_
              refine wpS_cond_t rfl ?_
              refine wpS_seq ?_
              refine wpS_region ?_
              refine s_y (v := .bool false) (y_assign rfl) rfl ?_
              refine wpL_nil ?_
              refine thenS_n ?_
              refine wpS_ret ?_
              refine blockS_r ?_
              refine thenS_r ?_
              refine thenS_r ?_
              refine blockS_r ?_
              refine thenS_r ?_
              refine fin1 (v := .bool false) (.inr rfl) (.nil) Try.results181 rfl ?_
              exact fun w' hs => ⟨congrArg (fun b : Bool => Ending.returned (.bool b)) ((part_no (i := i) (by omega) (by first | exact op_noR (by omega) | exact op_no3 (by omega) (by omega))).symm), hs⟩
             ·
              have p15 := of_decide_eq_false b15
              refine s_gy (y_fieldAddr (o' := 5) rfl Try.underlying86 rfl Try.sizeOf2 (by decide) rfl) rfl rfl rfl rfl (b' := decide ((((l.getD i default).o5).toInt : Int) < 0)) rfl b15 ?_
              refine s_gy (y_load1 rfl Try.isAgg2 (own1 .h rfl)) rfl rfl rfl rfl (b' := decide ((((l.getD i default).o5).toInt : Int) < 0)) rfl b15 ?_
              refine s_gy (y_move h1_1) rfl rfl rfl rfl (b' := decide ((((l.getD i default).o5).toInt : Int) < 0)) rfl b15 ?_
              refine s_gy (y_geq (a := ((l.getD i default).o5).toInt) (b := k) rfl rfl rfl) rfl rfl rfl rfl (b' := decide ((((l.getD i default).o5).toInt : Int) < 0)) rfl b15 ?_
              refine s_gy (y_pickF (b := decide ((((l.getD i default).o5).toInt : Int) < 0)) (v := .bool (decide ((k : Int) ≤ (((l.getD i default).o5).toInt)))) rfl b15 rfl) rfl rfl rfl rfl (b' := decide (((l.getD i default).o0 : Int) = 12)) rfl b14 ?_
              refine s_y (v := .bool (decide ((k : Int) ≤ (((l.getD i default).o5).toInt)))) (y_pickT (b := decide (((l.getD i default).o0 : Int) = 12)) (v := .bool (decide ((k : Int) ≤ (((l.getD i default).o5).toInt)))) rfl b14 rfl) rfl ?_
              refine wpL_nil ?_
              refine thenS_n ?_
              refine wpS_cond (t := decide ((k : Int) ≤ (((l.getD i default).o5).toInt))) rfl (fun b16 => ?_) (fun b16 => ?_)
              ·
               have p16 := of_decide_eq_true b16
               refine wpS_seq ?_
               refine wpS_region ?_
               refine s_y (v := .bool false) (y_assign rfl) rfl ?_
               refine wpL_nil ?_
               refine thenS_n ?_
               refine wpS_ret ?_
               refine blockS_r ?_
               refine thenS_r ?_
               refine thenS_r ?_
               refine blockS_r ?_
               refine thenS_r ?_
               refine fin1 (v := .bool false) (.inr rfl) (.nil) Try.results181 rfl ?_
               exact fun w' hs => ⟨congrArg (fun b : Bool => Ending.returned (.bool b)) ((part_no (i := i) (by omega) (by first | exact op_noR (by omega) | exact op_no3 (by omega) (by omega))).symm), hs⟩
              ·
               have p16 := of_decide_eq_false b16
               refine wpS_skip ?_
               refine blockS_n ?_
               refine thenS_n ?_
               refine wpS_region ?_
               refine s_y (v := .int .i64 (((i : Nat) : Int))) (y_move h5_1) rfl ?_
               refine s_y (v := .int .i64 ((((i + 1) : Nat) : Int))) (y_add (a := ((i : Nat) : Int)) (b := 1) (c := (((i + 1) : Nat) : Int)) rfl rfl (wI (by omega) (by omega) (by omega))) rfl ?_
               refine s_y (v := .int .i64 ((((i + 1) : Nat) : Int))) (y_assign rfl) rfl ?_
               refine wpL_nil ?_
               refine thenS_n ?_
               exact ⟨_, by omega, ⟨(i + 1), rfl, by omega, (all_step (by omega) (by assumption) (op_yesR (by omega) (by omega))), rfl, h0_1, h1_1, rfl, .nil⟩⟩
            ·
             have p14 := of_decide_eq_false b14
             refine s_no rfl rfl rfl rfl (b' := decide (((l.getD i default).o0 : Int) = 12)) rfl b14 ?_
             refine s_no rfl rfl rfl rfl (b' := decide (((l.getD i default).o0 : Int) = 12)) rfl b14 ?_
             refine s_no rfl rfl rfl rfl (b' := decide (((l.getD i default).o0 : Int) = 12)) rfl b14 ?_
             refine s_no rfl rfl rfl rfl (b' := decide (((l.getD i default).o0 : Int) = 12)) rfl b14 ?_
             refine s_nu rfl rfl rfl rfl rfl ?_
             refine s_nu rfl rfl rfl rfl rfl ?_
             refine s_nu rfl rfl rfl rfl rfl ?_
             refine s_nu rfl rfl rfl rfl rfl ?_
             refine s_no rfl rfl rfl rfl (b' := decide (((l.getD i default).o0 : Int) = 12)) rfl b14 ?_
             refine s_y (v := .bool false) (y_pickF (b := decide (((l.getD i default).o0 : Int) = 12)) (v := .bool false) rfl b14 rfl) rfl ?_
             refine wpL_nil ?_
             refine thenS_n ?_
             refine wpS_cond_f rfl ?_
             refine wpS_skip ?_
             refine blockS_n ?_
             refine thenS_n ?_
             refine wpS_region ?_
             refine s_y (v := .int .i64 (((i : Nat) : Int))) (y_move h5_1) rfl ?_
             refine s_y (v := .int .i64 ((((i + 1) : Nat) : Int))) (y_add (a := ((i : Nat) : Int)) (b := 1) (c := (((i + 1) : Nat) : Int)) rfl rfl (wI (by omega) (by omega) (by omega))) rfl ?_
             refine s_y (v := .int .i64 ((((i + 1) : Nat) : Int))) (y_assign rfl) rfl ?_
             refine wpL_nil ?_
             refine thenS_n ?_
             exact ⟨_, by omega, ⟨(i + 1), rfl, by omega, (all_step (by omega) (by assumption) (op_yesR (by omega) (by omega))), rfl, h0_1, h1_1, rfl, .nil⟩⟩
 ·
  have p2 := of_decide_eq_false b2
  refine wpS_exit ?_
  refine thenS_x ?_
  refine thenS_x ?_
  refine blockS_h ?_
  refine thenS_n ?_
  refine wpS_seq ?_
  refine wpS_region ?_
  refine s_y (v := .slice ga gn gc) (y_move h0_1) rfl ?_
  refine s_y (v := .int .i64 (((gn : Nat) : Int))) (y_len (ty' := 0) (at_ := #[]) rfl Try.underlying82) rfl ?_
  refine s_y (v := .bool (decide ((gn : Nat) ≤ 40))) (y_leq (a := ((gn : Nat) : Int)) (b := 40) (c := decide ((gn : Nat) ≤ 40)) rfl rfl (decide_eq_decide.2 (by omega))) rfl ?_
  refine s_y (v := .bool (decide ((gn : Nat) ≤ 40))) (y_assign rfl) rfl ?_
  refine wpL_nil ?_
  refine thenS_n ?_
  refine wpS_ret ?_
  refine fin1 (v := .bool (decide ((gn : Nat) ≤ 40))) (.inr rfl) (.nil) Try.results181 rfl ?_
  exact fun w' hs => ⟨congrArg (fun b : Bool => Ending.returned (.bool b)) ((part_end (i := i) (by omega) (by assumption) (by omega)).symm), hs⟩
theorem rcheck_c (k : Int) (a1 a2 a3 : Option Addr) (n1 c1 n2 c2 n3 c3 : Nat) (l1 l2 l3 : List Opc) (w : World) (hn1 : l1.length = n1) (hr1 : Rds w a1 (l1.flatMap opcV)) (hb1 : n1 ≤ 9223372036854775807) (hn2 : l2.length = n2) (hr2 : Rds w a2 (l2.flatMap opcV)) (hb2 : n2 ≤ 9223372036854775807) (hn3 : l3.length = n3) (hr3 : Rds w a3 (l3.flatMap opcV)) (hb3 : n3 ≤ 9223372036854775807) : Pure Try.prog 93 #[.agg #[.int .i64 k, .slice a1 n1 c1, .slice a2 n2 c2, .slice a3 n3 c3]] w (.int .i64 (chk11 k l1 l2 l3)) := by
 refine calls_S (n := 31) (σ0 := (upd fr0 0 (.agg #[.int .i64 k, .slice a1 n1 c1, .slice a2 n2 c2, .slice a3 n3 c3]))) (D := []) (A := []) Try.func93 rfl Try.ntmps93 rfl (a1_fr _) (SH.start w) ?_
 refine wpS_seq ?_
 refine wpS_region ?_
 refine s_e rfl ?_
 refine e_box (v := .agg #[.int .i64 k, .slice a1 n1 c1, .slice a2 n2 c2, .slice a3 n3 c3]) (l := [.int .i64 k, .slice a1 n1 c1, .slice a2 n2 c2, .slice a3 n3 c3]) rfl rfl ?_
 intro b_1
 refine s_y (v := .int .i64 0) (y_assign rfl) rfl ?_
 refine wpL_nil ?_
 refine thenS_n ?_
 refine wpS_seq ?_
 refine wpS_seq ?_
 refine wpS_region ?_
 refine s_y (v := .pointer (some ⟨b_1, 0, none⟩)) (y_fieldAddr (o' := 0) rfl Try.underlying84 rfl Try.sizeOf3 (by decide) rfl) rfl ?_
 refine s_y (v := .int .i64 k) (y_load1 rfl Try.isAgg3 (own1 .h rfl)) rfl ?_
 refine s_y (v := .bool (decide ((k : Int) < 1))) (y_lss (a := k) (b := 1) rfl rfl rfl) rfl ?_
 refine s_y (v := .bool (decide ((k : Int) < 1))) (y_move rfl) rfl ?_
 rcases Bool.eq_false_or_eq_true (decide ((k : Int) < 1)) with b2 | b2
 ·
  have p2 := of_decide_eq_true b2
  refine s_no rfl rfl rfl rfl (b' := decide ((k : Int) < 1)) rfl b2 ?_
  refine s_no rfl rfl rfl rfl (b' := decide ((k : Int) < 1)) rfl b2 ?_
  refine s_no rfl rfl rfl rfl (b' := decide ((k : Int) < 1)) rfl b2 ?_
  refine s_y (v := .bool true) (y_pickT (b := decide ((k : Int) < 1)) (v := .bool true) rfl b2 rfl) rfl ?_
  refine s_y (v := .bool true) (y_move rfl) rfl ?_
  refine s_no rfl rfl rfl rfl rfl rfl ?_
  refine s_no rfl rfl rfl rfl rfl rfl ?_
  refine s_no rfl rfl rfl rfl rfl rfl ?_
  refine s_no rfl rfl rfl rfl rfl rfl ?_
  refine s_no rfl rfl rfl rfl rfl rfl ?_
  refine s_no rfl rfl rfl rfl rfl rfl ?_
  refine s_y (v := .bool true) (y_pickT (v := .bool true) rfl rfl rfl) rfl ?_
  refine s_y (v := .bool true) (y_move rfl) rfl ?_
  refine s_no rfl rfl rfl rfl rfl rfl ?_
  refine s_no rfl rfl rfl rfl rfl rfl ?_
  refine s_no rfl rfl rfl rfl rfl rfl ?_
  refine s_no rfl rfl rfl rfl rfl rfl ?_
  refine s_y (v := .bool true) (y_pickT (v := .bool true) rfl rfl rfl) rfl ?_
  refine s_y (v := .bool true) (y_move rfl) rfl ?_
  refine s_no rfl rfl rfl rfl rfl rfl ?_
  refine s_no rfl rfl rfl rfl rfl rfl ?_
  refine s_no rfl rfl rfl rfl rfl rfl ?_
  refine s_no rfl rfl rfl rfl rfl rfl ?_
  refine s_y (v := .bool true) (y_pickT (v := .bool true) rfl rfl rfl) rfl ?_
  refine wpL_nil ?_
  refine thenS_n ?_
  refine wpS_cond_t rfl ?_
  refine wpS_seq ?_
  refine wpS_region ?_
  refine s_y (v := .int .i64 8) (y_assign rfl) rfl ?_
  refine wpL_nil ?_
  refine thenS_n ?_
  refine wpS_ret ?_
  refine thenS_r ?_
  refine fin1 (v := .int .i64 8) (.inr rfl) (.nil) Try.results93 rfl ?_
  exact fun w' hs => ⟨congrArg (fun z : Int => Ending.returned (.int .i64 z)) ((chk_8 (by first | exact chk_n0 (by omega) | exact chk_n1 (by assumption) | exact chk_n2 (by assumption) | exact chk_n3 (by assumption))).symm), hs⟩
 ·
  have p2 := of_decide_eq_false b2
  refine s_gy (y_fieldAddr (o' := 0) rfl Try.underlying84 rfl Try.sizeOf3 (by decide) rfl) rfl rfl rfl rfl (b' := decide ((k : Int) < 1)) rfl b2 ?_
  refine s_gy (y_load1 rfl Try.isAgg3 (own1 .h rfl)) rfl rfl rfl rfl (b' := decide ((k : Int) < 1)) rfl b2 ?_
  refine s_gy (y_gtr (a := k) (b := 4) rfl rfl rfl) rfl rfl rfl rfl (b' := decide ((k : Int) < 1)) rfl b2 ?_
  refine s_y (v := .bool (decide ((4 : Int) < k))) (y_pickF (b := decide ((k : Int) < 1)) (v := .bool (decide ((4 : Int) < k))) rfl b2 rfl) rfl ?_
  refine s_y (v := .bool (decide ((4 : Int) < k))) (y_move rfl) rfl ?_
  rcases Bool.eq_false_or_eq_true (decide ((4 : Int) < k)) with b3 | b3
  ·
   have p3 := of_decide_eq_true b3
   refine s_no rfl rfl rfl rfl (b' := decide ((4 : Int) < k)) rfl b3 ?_
   refine s_no rfl rfl rfl rfl (b' := decide ((4 : Int) < k)) rfl b3 ?_
   refine s_no rfl rfl rfl rfl (b' := decide ((4 : Int) < k)) rfl b3 ?_
   refine s_no rfl rfl rfl rfl (b' := decide ((4 : Int) < k)) rfl b3 ?_
   refine s_no rfl rfl rfl rfl (b' := decide ((4 : Int) < k)) rfl b3 ?_
   refine s_no rfl rfl rfl rfl (b' := decide ((4 : Int) < k)) rfl b3 ?_
   refine s_y (v := .bool true) (y_pickT (b := decide ((4 : Int) < k)) (v := .bool true) rfl b3 rfl) rfl ?_
   refine s_y (v := .bool true) (y_move rfl) rfl ?_
   refine s_no rfl rfl rfl rfl rfl rfl ?_
   refine s_no rfl rfl rfl rfl rfl rfl ?_
   refine s_no rfl rfl rfl rfl rfl rfl ?_
   refine s_no rfl rfl rfl rfl rfl rfl ?_
   refine s_y (v := .bool true) (y_pickT (v := .bool true) rfl rfl rfl) rfl ?_
   refine s_y (v := .bool true) (y_move rfl) rfl ?_
   refine s_no rfl rfl rfl rfl rfl rfl ?_
   refine s_no rfl rfl rfl rfl rfl rfl ?_
   refine s_no rfl rfl rfl rfl rfl rfl ?_
   refine s_no rfl rfl rfl rfl rfl rfl ?_
   refine s_y (v := .bool true) (y_pickT (v := .bool true) rfl rfl rfl) rfl ?_
   refine wpL_nil ?_
   refine thenS_n ?_
   refine wpS_cond_t rfl ?_
   refine wpS_seq ?_
   refine wpS_region ?_
   refine s_y (v := .int .i64 8) (y_assign rfl) rfl ?_
   refine wpL_nil ?_
   refine thenS_n ?_
   refine wpS_ret ?_
   refine thenS_r ?_
   refine fin1 (v := .int .i64 8) (.inr rfl) (.nil) Try.results93 rfl ?_
   exact fun w' hs => ⟨congrArg (fun z : Int => Ending.returned (.int .i64 z)) ((chk_8 (by first | exact chk_n0 (by omega) | exact chk_n1 (by assumption) | exact chk_n2 (by assumption) | exact chk_n3 (by assumption))).symm), hs⟩
  ·
   have p3 := of_decide_eq_false b3
   refine s_gy (y_fieldAddr (o' := 1) rfl Try.underlying84 rfl Try.sizeOf82 (by decide) rfl) rfl rfl rfl rfl (b' := decide ((4 : Int) < k)) rfl b3 ?_
   refine s_gy (y_load1 rfl Try.isAgg82 (own1 .h rfl)) rfl rfl rfl rfl (b' := decide ((4 : Int) < k)) rfl b3 ?_
   refine s_gy (y_fieldAddr (o' := 0) rfl Try.underlying84 rfl Try.sizeOf3 (by decide) rfl) rfl rfl rfl rfl (b' := decide ((4 : Int) < k)) rfl b3 ?_
   refine s_gy (y_load1 rfl Try.isAgg3 (own1 .h rfl)) rfl rfl rfl rfl (b' := decide ((4 : Int) < k)) rfl b3 ?_
   refine s_gy (y_call (args := #[.slice a1 n1 c1, .int .i64 k]) (v := .bool (partOk k l1)) Try.call181 (ev2 rfl rfl) (fun w hs => rpart_c a1 n1 c1 l1 k w hn1 ((oldR hr1) w hs) (by omega))) rfl rfl rfl rfl (b' := decide ((4 : Int) < k)) rfl b3 ?_
   refine s_gy (y_not (b := partOk k l1) rfl) rfl rfl rfl rfl (b' := decide ((4 : Int) < k)) rfl b3 ?_
   refine s_y (v := .bool (!(partOk k l1))) (y_pickF (b := decide ((4 : Int) < k)) (v := .bool (!(partOk k l1))) rfl b3 rfl) rfl ?_
   refine s_y (v := .bool (!(partOk k l1))) (y_move rfl) rfl ?_
   rcases Bool.eq_false_or_eq_true (!(partOk k l1)) with b4 | b4
   ·
    have b5 : (partOk k l1) = false := by simpa using b4
    refine s_no rfl rfl rfl rfl (b' := !(partOk k l1)) rfl b4 ?_
    refine s_no rfl rfl rfl rfl (b' := !(partOk k l1)) rfl b4 ?_
    refine s_no rfl rfl rfl rfl (b' := !(partOk k l1)) rfl b4 ?_
    refine s_no rfl rfl rfl rfl (b' := !(partOk k l1)) rfl b4 ?_
    refine s_y (v := .bool true) (y_pickT (b := !(partOk k l1)) (v := .bool true) rfl b4 rfl) rfl ?_
    refine s_y (v := .bool true) (y_move rfl) rfl ?_
    refine s_no rfl rfl rfl rfl rfl rfl ?_
    refine s_no rfl rfl rfl rfl rfl rfl ?_
    refine s_no rfl rfl rfl rfl rfl rfl ?_
    refine s_no rfl rfl rfl rfl rfl rfl ?_
    refine s_y (v := .bool true) (y_pickT (v := .bool true) rfl rfl rfl) rfl ?_
    refine wpL_nil ?_
    refine thenS_n ?_
    refine wpS_cond_t rfl ?_
    refine wpS_seq ?_
    refine wpS_region ?_
    refine s_y (v := .int .i64 8) (y_assign rfl) rfl ?_
    refine wpL_nil ?_
    refine thenS_n ?_
    refine wpS_ret ?_
    refine thenS_r ?_
    refine fin1 (v := .int .i64 8) (.inr rfl) (.nil) Try.results93 rfl ?_
    exact fun w' hs => ⟨congrArg (fun z : Int => Ending.returned (.int .i64 z)) ((chk_8 (by first | exact chk_n0 (by omega) | exact chk_n1 (by assumption) | exact chk_n2 (by assumption) | exact chk_n3 (by assumption))).symm), hs⟩
   ·
    have b6 : (partOk k l1) = true := by simpa using b4
    refine s_gy (y_fieldAddr (o' := 2) rfl Try.underlying84 rfl Try.sizeOf82 (by decide) rfl) rfl rfl rfl rfl (b' := !(partOk k l1)) rfl b4 ?_
    refine s_gy (y_load1 rfl Try.isAgg82 (own1 .h rfl)) rfl rfl rfl rfl (b' := !(partOk k l1)) rfl b4 ?_
    refine s_gy (y_call (args := #[.slice a2 n2 c2, .int .i64 0]) (v := .bool (partOk 0 l2)) Try.call181 (ev2 rfl rfl) (fun w hs => rpart_c a2 n2 c2 l2 0 w hn2 ((oldR hr2) w hs) (by omega))) rfl rfl rfl rfl (b' := !(partOk k l1)) rfl b4 ?_
    refine s_gy (y_not (b := partOk 0 l2) rfl) rfl rfl rfl rfl (b' := !(partOk k l1)) rfl b4 ?_
    refine s_y (v := .bool (!(partOk 0 l2))) (y_pickF (b := !(partOk k l1)) (v := .bool (!(partOk 0 l2))) rfl b4 rfl) rfl ?_
    refine s_y (v := .bool (!(partOk 0 l2))) (y_move rfl) rfl ?_
    rcases Bool.eq_false_or_eq_true (!(partOk 0 l2)) with b7 | b7
    ·
     have b8 : (partOk 0 l2) = false := by simpa using b7
     refine s_no rfl rfl rfl rfl (b' := !(partOk 0 l2)) rfl b7 ?_
     refine s_no rfl rfl rfl rfl (b' := !(partOk 0 l2)) rfl b7 ?_
     refine s_no rfl rfl rfl rfl (b' := !(partOk 0 l2)) rfl b7 ?_
     refine s_no rfl rfl rfl rfl (b' := !(partOk 0 l2)) rfl b7 ?_
     refine s_y (v := .bool true) (y_pickT (b := !(partOk 0 l2)) (v := .bool true) rfl b7 rfl) rfl ?_
     refine wpL_nil ?_
     refine thenS_n ?_
     refine wpS_cond_t rfl ?_
     refine wpS_seq ?_
     refine wpS_region ?_
     refine s_y (v := .int .i64 8) (y_assign rfl) rfl ?_
     refine wpL_nil ?_
     refine thenS_n ?_
     refine wpS_ret ?_
     refine thenS_r ?_
     refine fin1 (v := .int .i64 8) (.inr rfl) (.nil) Try.results93 rfl ?_
     exact fun w' hs => ⟨congrArg (fun z : Int => Ending.returned (.int .i64 z)) ((chk_8 (by first | exact chk_n0 (by omega) | exact chk_n1 (by assumption) | exact chk_n2 (by assumption) | exact chk_n3 (by assumption))).symm), hs⟩
    ·
     have b9 : (partOk 0 l2) = true := by simpa using b7
     refine s_gy (y_fieldAddr (o' := 3) rfl Try.underlying84 rfl Try.sizeOf82 (by decide) rfl) rfl rfl rfl rfl (b' := !(partOk 0 l2)) rfl b7 ?_
     refine s_gy (y_load1 rfl Try.isAgg82 (own1 .h rfl)) rfl rfl rfl rfl (b' := !(partOk 0 l2)) rfl b7 ?_
     refine s_gy (y_call (args := #[.slice a3 n3 c3, .int .i64 0]) (v := .bool (partOk 0 l3)) Try.call181 (ev2 rfl rfl) (fun w hs => rpart_c a3 n3 c3 l3 0 w hn3 ((oldR hr3) w hs) (by omega))) rfl rfl rfl rfl (b' := !(partOk 0 l2)) rfl b7 ?_
     refine s_gy (y_not (b := partOk 0 l3) rfl) rfl rfl rfl rfl (b' := !(partOk 0 l2)) rfl b7 ?_
     refine s_y (v := .bool (!(partOk 0 l3))) (y_pickF (b := !(partOk 0 l2)) (v := .bool (!(partOk 0 l3))) rfl b7 rfl) rfl ?_
     refine wpL_nil ?_
     refine thenS_n ?_
     refine wpS_cond (t := !(partOk 0 l3)) rfl (fun b10 => ?_) (fun b10 => ?_)
     ·
      have b11 : (partOk 0 l3) = false := by simpa using b10
      refine wpS_seq ?_
      refine wpS_region ?_
      refine s_y (v := .int .i64 8) (y_assign rfl) rfl ?_
      refine wpL_nil ?_
      refine thenS_n ?_
      refine wpS_ret ?_
      refine thenS_r ?_
      refine fin1 (v := .int .i64 8) (.inr rfl) (.nil) Try.results93 rfl ?_
      exact fun w' hs => ⟨congrArg (fun z : Int => Ending.returned (.int .i64 z)) ((chk_8 (by first | exact chk_n0 (by omega) | exact chk_n1 (by assumption) | exact chk_n2 (by assumption) | exact chk_n3 (by assumption))).symm), hs⟩
     ·
      have b12 : (partOk 0 l3) = true := by simpa using b10
      refine wpS_skip ?_
      refine thenS_n ?_
      refine wpS_seq ?_
      refine wpS_region ?_
      refine s_y (v := .int .i64 0) (y_assign rfl) rfl ?_
      refine wpL_nil ?_
      refine thenS_n ?_
      refine wpS_ret ?_
      refine fin1 (v := .int .i64 0) (.inr rfl) (.nil) Try.results93 rfl ?_
      exact fun w' hs => ⟨congrArg (fun z : Int => Ending.returned (.int .i64 z)) ((chk_0 (chk_all (by omega) (by omega) (by assumption) (by assumption) (by assumption))).symm), hs⟩
end Go.Proofs.Ytldkjjnjdjfipaa
namespace Go.Proofs.Ytldkjjnjdjfipaa
open Go Go.RowKit
set_option linter.unusedVariables false
set_option linter.unusedSimpArgs false
set_option maxRecDepth 10000
set_option maxHeartbeats 1000000
theorem jright_ok (pre : List Value) (p0 p1 p2 p3 : Int) (ia : Option Addr) (inn ic : Nat) (lj : List Pr) (m : Nat) (k0 : Int) (a1 a2 a3 : Option Addr) (n1 c1 n2 c2 n3 c3 : Nat) (l1 l2 l3 : List Opc) (w : World) (hpre : pre.length = 33) (hpo : pre.all Value.oneCell' = true) (hmm : 1 + u64of p1 % 2 = m) (hn1 : l1.length = n1) (hr1 : Rds w a1 (l1.flatMap opcV)) (hb1 : n1 ≤ 9223372036854775807) (hn2 : l2.length = n2) (hr2 : Rds w a2 (l2.flatMap opcV)) (hb2 : n2 ≤ 9223372036854775807) (hn3 : l3.length = n3) (hr3 : Rds w a3 (l3.flatMap opcV)) (hb3 : n3 ≤ 9223372036854775807) (hni : lj.length = inn) (hri : Rds w ia (lj.flatMap prV)) (hbi : inn ≤ 9223372036854775807) (hci : inn ≤ ic) (hck : (chkB ((m : Nat) : Int) l1 l2 l3) = true) : Makes Try.prog 134 #[.agg (pj pre [.int .i64 k0, .slice a1 n1 c1, .slice a2 n2 c2, .slice a3 n3 c3, .int .i64 p0, .int .i64 p1, .int .i64 p2, .int .i64 p3, .slice ia inn ic]).toArray] w [] (X := ((Nat × Nat × Nat) × (Option Addr × Nat) × List Pr)) (fun x => .agg (pj pre [.int .i64 ((m : Nat) : Int), .slice a1 n1 c1, .slice a2 n2 c2, .slice a3 n3 c3, .int .i64 ((x.1.1 : Nat) : Int), .int .i64 ((m : Nat) : Int), .int .i64 ((x.1.2.1 : Nat) : Int), .int .i64 ((x.1.2.2 : Nat) : Int), .slice x.2.1.1 x.1.1 x.2.1.2]).toArray) (fun x => [osl x.2.1.1 x.2.1.2 x.1.1 2 89 (x.2.2.flatMap prV)]) (fun x => ok ⟨((x.1.1 : Nat) : Int), ((m : Nat) : Int), ((x.1.2.1 : Nat) : Int), ((x.1.2.2 : Nat) : Int)⟩ = true ∧ x.1.1 ≤ 6 ∧ x.2.2.length = x.1.1) := by
 refine calls_S (n := 124) (σ0 := (upd fr0 0 (.agg (pj pre [.int .i64 k0, .slice a1 n1 c1, .slice a2 n2 c2, .slice a3 n3 c3, .int .i64 p0, .int .i64 p1, .int .i64 p2, .int .i64 p3, .slice ia inn ic]).toArray))) (D := []) (A := []) Try.func134 rfl Try.ntmps134 rfl (a1_fr _) (SH.start w) ?_
 obtain ⟨R0, hR0⟩ : ∃ R0, 1 + u64of p0 % 6 = R0 := ⟨_, rfl⟩
 obtain ⟨S, hS0⟩ : ∃ S, 1 + u64of p2 % 3 = S := ⟨_, rfl⟩
 obtain ⟨Wn, hW0⟩ : ∃ Wn, 1 + u64of p3 % 3 = Wn := ⟨_, rfl⟩
 have hq1 := part_len (chk_bd hck).2.2.1
 have hq2 := part_len (chk_bd hck).2.2.2.1
 have hq3 := part_len (chk_bd hck).2.2.2.2
 refine wpS_seq ?_
 refine wpS_region ?_
 refine s_e rfl ?_
 refine e_box (v := .agg (pj pre [.int .i64 k0, .slice a1 n1 c1, .slice a2 n2 c2, .slice a3 n3 c3, .int .i64 p0, .int .i64 p1, .int .i64 p2, .int .i64 p3, .slice ia inn ic]).toArray) (l := (pj pre [.int .i64 k0, .slice a1 n1 c1, .slice a2 n2 c2, .slice a3 n3 c3, .int .i64 p0, .int .i64 p1, .int .i64 p2, .int .i64 p3, .slice ia inn ic])) rfl rfl ?_
 intro b_1
 refine s_e rfl ?_
 refine e_alloc (l := zJob) Try.zeroValue155 rfl ?_
 intro b_2
 refine wpL_nil ?_
 refine thenS_n ?_
 refine wpS_seq ?_
 refine wpS_region ?_
 refine s_y (v := .pointer (some ⟨b_1, 37, none⟩)) (y_fieldAddr (o' := 37) rfl Try.underlying155 rfl Try.sizeOf53 (by decide) rfl) rfl ?_
 refine s_y (v := .pointer (some ⟨b_1, 37, none⟩)) (y_fieldAddr (o' := 37) rfl Try.underlying53 rfl Try.sizeOf3 (by decide) rfl) rfl ?_
 refine s_y (v := .int .i64 p0) (y_load1 (v := .int .i64 p0) rfl Try.isAgg3 (own1 (.t .h) (pre_get 4 hpre rfl))) rfl ?_
 refine s_y (v := .int .u64 ((((u64of p0) : Nat) : Int))) (y_convI (a := p0) (c := (((u64of p0) : Nat) : Int)) rfl Try.underlying3 Try.underlying46 (u64of_wrap _)) rfl ?_
 refine s_y (v := .int .u64 (((((u64of p0) % 6) : Nat) : Int))) (y_rem (a := (((u64of p0) : Nat) : Int)) (b := 6) (c := ((((u64of p0) % 6) : Nat) : Int)) rfl rfl (by omega) (n_rem _ 6 (by omega))) rfl ?_
 refine s_y (v := .int .i64 (((((u64of p0) % 6) : Nat) : Int))) (y_convI (a := ((((u64of p0) % 6) : Nat) : Int)) (c := ((((u64of p0) % 6) : Nat) : Int)) rfl Try.underlying46 Try.underlying3 (wI rfl (by omega) (by omega))) rfl ?_
 refine s_y (v := .int .i64 (((R0 : Nat) : Int))) (y_add (a := 1) (b := ((((u64of p0) % 6) : Nat) : Int)) (c := ((R0 : Nat) : Int)) rfl rfl (wI (by omega) (by omega) (by omega))) rfl ?_
 refine s_y (v := .pointer (some ⟨b_1, 37, none⟩)) (y_fieldAddr (o' := 37) rfl Try.underlying155 rfl Try.sizeOf53 (by decide) rfl) rfl ?_
 refine s_y (v := .pointer (some ⟨b_1, 37, none⟩)) (y_fieldAddr (o' := 37) rfl Try.underlying53 rfl Try.sizeOf3 (by decide) rfl) rfl ?_
 refine s_e0 ?_
 refine e_store (vs := [.int .i64 (((R0 : Nat) : Int))]) (l' := (pj pre [.int .i64 k0, .slice a1 n1 c1, .slice a2 n2 c2, .slice a3 n3 c3, .int .i64 (((R0 : Nat) : Int)), .int .i64 p1, .int .i64 p2, .int .i64 p3, .slice ia inn ic])) rfl rfl rfl rfl Try.sizeOf3 (.t .h) (pre_fit 4 hpre (Nat.le_of_ble_eq_true rfl)) (pre_set 4 hpre rfl) ?_
 refine wpL_nil ?_
 refine thenS_n ?_
 refine wpS_seq ?_
 refine wpS_region ?_
 refine s_y (v := .pointer (some ⟨b_1, 37, none⟩)) (y_fieldAddr (o' := 37) rfl Try.underlying155 rfl Try.sizeOf53 (by decide) rfl) rfl ?_
 refine s_y (v := .pointer (some ⟨b_1, 38, none⟩)) (y_fieldAddr (o' := 38) rfl Try.underlying53 rfl Try.sizeOf3 (by decide) rfl) rfl ?_
 refine s_y (v := .int .i64 p1) (y_load1 (v := .int .i64 p1) rfl Try.isAgg3 (own1 .h (pre_get 5 hpre rfl))) rfl ?_
 refine s_y (v := .int .u64 ((((u64of p1) : Nat) : Int))) (y_convI (a := p1) (c := (((u64of p1) : Nat) : Int)) rfl Try.underlying3 Try.underlying46 (u64of_wrap _)) rfl ?_
 refine s_y (v := .int .u64 (((((u64of p1) % 2) : Nat) : Int))) (y_rem (a := (((u64of p1) : Nat) : Int)) (b := 2) (c := ((((u64of p1) % 2) : Nat) : Int)) rfl rfl (by omega) (n_rem _ 2 (by omega))) rfl ?_
 refine s_y (v := .int .i64 (((((u64of p1) % 2) : Nat) : Int))) (y_convI (a := ((((u64of p1) % 2) : Nat) : Int)) (c := ((((u64of p1) % 2) : Nat) : Int)) rfl Try.underlying46 Try.underlying3 (wI rfl (by omega) (by omega))) rfl ?_
 refine s_y (v := .int .i64 (((m : Nat) : Int))) (y_add (a := 1) (b := ((((u64of p1) % 2) : Nat) : Int)) (c := ((m : Nat) : Int)) rfl rfl (wI (by omega) (by omega) (by omega))) rfl ?_
 refine s_y (v := .pointer (some ⟨b_1, 37, none⟩)) (y_fieldAddr (o' := 37) rfl Try.underlying155 rfl Try.sizeOf53 (by decide) rfl) rfl ?_
 refine s_y (v := .pointer (some ⟨b_1, 38, none⟩)) (y_fieldAddr (o' := 38) rfl Try.underlying53 rfl Try.sizeOf3 (by decide) rfl) rfl ?_
 refine s_e0 ?_
 refine e_store (vs := [.int .i64 (((m : Nat) : Int))]) (l' := (pj pre [.int .i64 k0, .slice a1 n1 c1, .slice a2 n2 c2, .slice a3 n3 c3, .int .i64 (((R0 : Nat) : Int)), .int .i64 (((m : Nat) : Int)), .int .i64 p2, .int .i64 p3, .slice ia inn ic])) rfl rfl rfl rfl Try.sizeOf3 .h (pre_fit 5 hpre (Nat.le_of_ble_eq_true rfl)) (pre_set 5 hpre rfl) ?_
 refine wpL_nil ?_
 refine thenS_n ?_
 refine wpS_seq ?_
 refine wpS_region ?_
 refine s_y (v := .pointer (some ⟨b_1, 37, none⟩)) (y_fieldAddr (o' := 37) rfl Try.underlying155 rfl Try.sizeOf53 (by decide) rfl) rfl ?_
 refine s_y (v := .pointer (some ⟨b_1, 39, none⟩)) (y_fieldAddr (o' := 39) rfl Try.underlying53 rfl Try.sizeOf3 (by decide) rfl) rfl ?_
 refine s_y (v := .int .i64 p2) (y_load1 (v := .int .i64 p2) rfl Try.isAgg3 (own1 .h (pre_get 6 hpre rfl))) rfl ?_
 refine s_y (v := .int .u64 ((((u64of p2) : Nat) : Int))) (y_convI (a := p2) (c := (((u64of p2) : Nat) : Int)) rfl Try.underlying3 Try.underlying46 (u64of_wrap _)) rfl ?_
 refine s_y (v := .int .u64 (((((u64of p2) % 3) : Nat) : Int))) (y_rem (a := (((u64of p2) : Nat) : Int)) (b := 3) (c := ((((u64of p2) % 3) : Nat) : Int)) rfl rfl (by omega) (n_rem _ 3 (by omega))) rfl ?_
 refine s_y (v := .int .i64 (((((u64of p2) % 3) : Nat) : Int))) (y_convI (a := ((((u64of p2) % 3) : Nat) : Int)) (c := ((((u64of p2) % 3) : Nat) : Int)) rfl Try.underlying46 Try.underlying3 (wI rfl (by omega) (by omega))) rfl ?_
 refine s_y (v := .int .i64 (((S : Nat) : Int))) (y_add (a := 1) (b := ((((u64of p2) % 3) : Nat) : Int)) (c := ((S : Nat) : Int)) rfl rfl (wI (by omega) (by omega) (by omega))) rfl ?_
 refine s_y (v := .pointer (some ⟨b_1, 37, none⟩)) (y_fieldAddr (o' := 37) rfl Try.underlying155 rfl Try.sizeOf53 (by decide) rfl) rfl ?_
 refine s_y (v := .pointer (some ⟨b_1, 39, none⟩)) (y_fieldAddr (o' := 39) rfl Try.underlying53 rfl Try.sizeOf3 (by decide) rfl) rfl ?_
 refine s_e0 ?_
 refine e_store (vs := [.int .i64 (((S : Nat) : Int))]) (l' := (pj pre [.int .i64 k0, .slice a1 n1 c1, .slice a2 n2 c2, .slice a3 n3 c3, .int .i64 (((R0 : Nat) : Int)), .int .i64 (((m : Nat) : Int)), .int .i64 (((S : Nat) : Int)), .int .i64 p3, .slice ia inn ic])) rfl rfl rfl rfl Try.sizeOf3 .h (pre_fit 6 hpre (Nat.le_of_ble_eq_true rfl)) (pre_set 6 hpre rfl) ?_
 refine wpL_nil ?_
 refine thenS_n ?_
 refine wpS_seq ?_
 refine wpS_region ?_
 refine s_y (v := .pointer (some ⟨b_1, 37, none⟩)) (y_fieldAddr (o' := 37) rfl Try.underlying155 rfl Try.sizeOf53 (by decide) rfl) rfl ?_
 refine s_y (v := .pointer (some ⟨b_1, 40, none⟩)) (y_fieldAddr (o' := 40) rfl Try.underlying53 rfl Try.sizeOf3 (by decide) rfl) rfl ?_
 refine s_y (v := .int .i64 p3) (y_load1 (v := .int .i64 p3) rfl Try.isAgg3 (own1 .h (pre_get 7 hpre rfl))) rfl ?_
 refine s_y (v := .int .u64 ((((u64of p3) : Nat) : Int))) (y_convI (a := p3) (c := (((u64of p3) : Nat) : Int)) rfl Try.underlying3 Try.underlying46 (u64of_wrap _)) rfl ?_
 refine s_y (v := .int .u64 (((((u64of p3) % 3) : Nat) : Int))) (y_rem (a := (((u64of p3) : Nat) : Int)) (b := 3) (c := ((((u64of p3) % 3) : Nat) : Int)) rfl rfl (by omega) (n_rem _ 3 (by omega))) rfl ?_
 refine s_y (v := .int .i64 (((((u64of p3) % 3) : Nat) : Int))) (y_convI (a := ((((u64of p3) % 3) : Nat) : Int)) (c := ((((u64of p3) % 3) : Nat) : Int)) rfl Try.underlying46 Try.underlying3 (wI rfl (by omega) (by omega))) rfl ?_
 refine s_y (v := .int .i64 (((Wn : Nat) : Int))) (y_add (a := 1) (b := ((((u64of p3) % 3) : Nat) : Int)) (c := ((Wn : Nat) : Int)) rfl rfl (wI (by omega) (by omega) (by omega))) rfl ?_
 refine s_y (v := .pointer (some ⟨b_1, 37, none⟩)) (y_fieldAddr (o' := 37) rfl Try.underlying155 rfl Try.sizeOf53 (by decide) rfl) rfl ?_
 refine s_y (v := .pointer (some ⟨b_1, 40, none⟩)) (y_fieldAddr (o' := 40) rfl Try.underlying53 rfl Try.sizeOf3 (by decide) rfl) rfl ?_
 refine s_e0 ?_
 refine e_store (vs := [.int .i64 (((Wn : Nat) : Int))]) (l' := (pj pre [.int .i64 k0, .slice a1 n1 c1, .slice a2 n2 c2, .slice a3 n3 c3, .int .i64 (((R0 : Nat) : Int)), .int .i64 (((m : Nat) : Int)), .int .i64 (((S : Nat) : Int)), .int .i64 (((Wn : Nat) : Int)), .slice ia inn ic])) rfl rfl rfl rfl Try.sizeOf3 .h (pre_fit 7 hpre (Nat.le_of_ble_eq_true rfl)) (pre_set 7 hpre rfl) ?_
 refine wpL_nil ?_
 refine thenS_n ?_
 refine wpS_seq ?_
 refine wpS_block ?_
 refine wpS_loop (fun mez ds σ L => ∃ i : Nat, mez = i ∧ (1 ≤ i) ∧ (i ≤ 6) ∧ ds = [] ∧ σ 1 = .pointer (some ⟨b_1, 0, none⟩) ∧ σ 2 = .pointer (some ⟨b_2, 0, none⟩) ∧ Ent L [cel b_1 155 (pj pre [.int .i64 k0, .slice a1 n1 c1, .slice a2 n2 c2, .slice a3 n3 c3, .int .i64 (((i : Nat) : Int)), .int .i64 (((m : Nat) : Int)), .int .i64 (((S : Nat) : Int)), .int .i64 (((Wn : Nat) : Int)), .slice ia inn ic]), cel b_2 155 zJob]) (m0 := R0) ⟨R0, rfl, by omega, by omega, rfl, rfl, rfl, .p .h (.p .h .nil)⟩ ?_
 rintro mez ds σ L ⟨i, hm_3, hf0_3, hf1_3, rfl, h1_3, h2_3, hE_3⟩
 refine wpS_ent hE_3 ?_; clear hE_3
 have hmq := right_le (i := i) (m := m) (S := S) (by omega) (by omega) (by omega) (by omega)
 refine wpS_seq ?_
 refine wpS_seq ?_
 refine wpS_lex (by kernel_rfl) (by kernel_rfl) ?_
 refine x_y (v := .pointer (some ⟨b_1, 37, none⟩)) (y_fieldAddr (o' := 37) h1_3 Try.underlying155 rfl Try.sizeOf53 (by decide) rfl) rfl ?_
 refine x_y (v := .pointer (some ⟨b_1, 38, none⟩)) (y_fieldAddr (o' := 38) rfl Try.underlying53 rfl Try.sizeOf3 (by decide) rfl) rfl ?_
 refine x_y (v := .int .i64 (((m : Nat) : Int))) (y_load1 (v := .int .i64 (((m : Nat) : Int))) rfl Try.isAgg3 (own1 .h (pre_get 5 hpre rfl))) rfl ?_
 refine x_y (v := .pointer (some ⟨b_1, 37, none⟩)) (y_fieldAddr (o' := 37) h1_3 Try.underlying155 rfl Try.sizeOf53 (by decide) rfl) rfl ?_
 refine x_y (v := .pointer (some ⟨b_1, 37, none⟩)) (y_fieldAddr (o' := 37) rfl Try.underlying53 rfl Try.sizeOf3 (by decide) rfl) rfl ?_
 refine x_y (v := .int .i64 (((i : Nat) : Int))) (y_load1 (v := .int .i64 (((i : Nat) : Int))) rfl Try.isAgg3 (own1 .h (pre_get 4 hpre rfl))) rfl ?_
 refine x_y (v := .pointer (some ⟨b_1, 37, none⟩)) (y_fieldAddr (o' := 37) h1_3 Try.underlying155 rfl Try.sizeOf53 (by decide) rfl) rfl ?_
 refine x_y (v := .pointer (some ⟨b_1, 39, none⟩)) (y_fieldAddr (o' := 39) rfl Try.underlying53 rfl Try.sizeOf3 (by decide) rfl) rfl ?_
 refine x_y (v := .int .i64 (((S : Nat) : Int))) (y_load1 (v := .int .i64 (((S : Nat) : Int))) rfl Try.isAgg3 (own1 .h (pre_get 6 hpre rfl))) rfl ?_
 refine x_y (v := .int .i64 ((((i + S) : Nat) : Int))) (y_add (a := ((i : Nat) : Int)) (b := ((S : Nat) : Int)) (c := (((i + S) : Nat) : Int)) rfl rfl (wI (by omega) (by omega) (by omega))) rfl ?_
 refine x_y (v := .int .i64 (((((i + S) - 1) : Nat) : Int))) (y_sub (a := (((i + S) : Nat) : Int)) (b := 1) (c := ((((i + S) - 1) : Nat) : Int)) rfl rfl (wI (by omega) (by omega) (by omega))) rfl ?_
 refine x_y (v := .pointer (some ⟨b_1, 37, none⟩)) (y_fieldAddr (o' := 37) h1_3 Try.underlying155 rfl Try.sizeOf53 (by decide) rfl) rfl ?_
 refine x_y (v := .pointer (some ⟨b_1, 39, none⟩)) (y_fieldAddr (o' := 39) rfl Try.underlying53 rfl Try.sizeOf3 (by decide) rfl) rfl ?_
 refine x_y (v := .int .i64 (((S : Nat) : Int))) (y_load1 (v := .int .i64 (((S : Nat) : Int))) rfl Try.isAgg3 (own1 .h (pre_get 6 hpre rfl))) rfl ?_
 refine x_y (v := .int .i64 ((((((i + S) - 1) / S) : Nat) : Int))) (y_quo (a := ((((i + S) - 1) : Nat) : Int)) (b := ((S : Nat) : Int)) (c := (((((i + S) - 1) / S) : Nat) : Int)) rfl rfl (by omega) (n_quo _ S (by omega) (by omega))) rfl ?_
 refine x_y (v := .int .i64 ((((m * (((i + S) - 1) / S)) : Nat) : Int))) (y_mul (a := ((m : Nat) : Int)) (b := (((((i + S) - 1) / S) : Nat) : Int)) (c := (((m * (((i + S) - 1) / S)) : Nat) : Int)) rfl rfl (wI (Int.natCast_mul _ _).symm (by omega) (by omega))) rfl ?_
 refine x_y (v := .bool (decide ((7 : Nat) < (m * (((i + S) - 1) / S))))) (y_gtr (a := (((m * (((i + S) - 1) / S)) : Nat) : Int)) (b := 7) (c := decide ((7 : Nat) < (m * (((i + S) - 1) / S)))) rfl rfl (decide_eq_decide.2 (by omega))) rfl ?_
 refine x_nil ?_
 refine thenS_n ?_
 refine wpS_cond (t := decide ((7 : Nat) < (m * (((i + S) - 1) / S)))) rfl (fun b4 => ?_) (fun b4 => ?_)
 ·
  have p4 := of_decide_eq_true b4
  have hi2 := right_ge (i := i) (m := m) (S := S) (by omega) (by omega) (by omega) (by omega)
  refine wpS_skip ?_
  refine thenS_n ?_
  refine wpS_block ?_
  refine wpS_region ?_
  refine s_y (v := .pointer (some ⟨b_1, 37, none⟩)) (y_fieldAddr (o' := 37) h1_3 Try.underlying155 rfl Try.sizeOf53 (by decide) rfl) rfl ?_
  refine s_y (v := .pointer (some ⟨b_1, 37, none⟩)) (y_fieldAddr (o' := 37) rfl Try.underlying53 rfl Try.sizeOf3 (by decide) rfl) rfl ?_
  refine s_y (v := .int .i64 (((i : Nat) : Int))) (y_load1 (v := .int .i64 (((i : Nat) : Int))) rfl Try.isAgg3 (own1 .h (pre_get 4 hpre rfl))) rfl ?_
  refine s_y (v := .int .i64 ((((i - 1) : Nat) : Int))) (y_sub (a := ((i : Nat) : Int)) (b := 1) (c := (((i - 1) : Nat) : Int)) rfl rfl (wI (by omega) (by omega) (by omega))) rfl ?_
  refine s_y (v := .pointer (some ⟨b_1, 37, none⟩)) (y_fieldAddr (o' := 37) h1_3 Try.underlying155 rfl Try.sizeOf53 (by decide) rfl) rfl ?_
  refine s_y (v := .pointer (some ⟨b_1, 37, none⟩)) (y_fieldAddr (o' := 37) rfl Try.underlying53 rfl Try.sizeOf3 (by decide) rfl) rfl ?_
  refine s_e0 ?_
  refine e_store (vs := [.int .i64 ((((i - 1) : Nat) : Int))]) (l' := (pj pre [.int .i64 k0, .slice a1 n1 c1, .slice a2 n2 c2, .slice a3 n3 c3, .int .i64 ((((i - 1) : Nat) : Int)), .int .i64 (((m : Nat) : Int)), .int .i64 (((S : Nat) : Int)), .int .i64 (((Wn : Nat) : Int)), .slice ia inn ic])) rfl rfl rfl rfl Try.sizeOf3 .h (pre_fit 4 hpre (Nat.le_of_ble_eq_true rfl)) (pre_set 4 hpre rfl) ?_
  refine wpL_nil ?_
  refine blockS_n ?_
  refine thenS_n ?_
  exact ⟨_, by omega, ⟨(i - 1), rfl, by omega, by omega, rfl, h1_3, h2_3, .p .h (.p .h .nil)⟩⟩
 ·
  have p4 := of_decide_eq_false b4
  refine wpS_exit ?_
  refine thenS_x ?_
  refine thenS_x ?_
  refine blockS_h ?_
  refine thenS_n ?_
  refine wpS_seq ?_
  refine wpS_region ?_
  refine s_y (v := .pointer (some ⟨b_1, 33, none⟩)) (y_fieldAddr (o' := 33) h1_3 Try.underlying155 rfl Try.sizeOf84 (by decide) rfl) rfl ?_
  refine s_y (v := .agg #[.int .i64 k0, .slice a1 n1 c1, .slice a2 n2 c2, .slice a3 n3 c3]) (y_loadN (vs := [.int .i64 k0, .slice a1 n1 c1, .slice a2 n2 c2, .slice a3 n3 c3]) rfl Try.isAgg84 Try.sizeOf84 (ownN .h (pre_getN 0 hpre rfl))) rfl ?_
  refine s_e rfl ?_
  refine e_alloc (l := [.int .i64 0, .slice none 0 0, .slice none 0 0, .slice none 0 0]) Try.zeroValue84 rfl ?_
  intro b_5
  refine s_e0 ?_
  refine e_store (vs := [.int .i64 k0, .slice a1 n1 c1, .slice a2 n2 c2, .slice a3 n3 c3]) (l' := [.int .i64 k0, .slice a1 n1 c1, .slice a2 n2 c2, .slice a3 n3 c3]) rfl rfl rfl rfl Try.sizeOf84 .h (Nat.le_of_ble_eq_true rfl) rfl ?_
  refine wpL_nil ?_
  refine thenS_n ?_
  refine wpS_seq ?_
  refine wpS_region ?_
  refine s_y (v := .pointer (some ⟨b_1, 37, none⟩)) (y_fieldAddr (o' := 37) h1_3 Try.underlying155 rfl Try.sizeOf53 (by decide) rfl) rfl ?_
  refine s_y (v := .pointer (some ⟨b_1, 38, none⟩)) (y_fieldAddr (o' := 38) rfl Try.underlying53 rfl Try.sizeOf3 (by decide) rfl) rfl ?_
  refine s_y (v := .int .i64 (((m : Nat) : Int))) (y_load1 (v := .int .i64 (((m : Nat) : Int))) rfl Try.isAgg3 (own1 (.t .h) (pre_get 5 hpre rfl))) rfl ?_
  refine s_y (v := .pointer (some ⟨b_5, 0, none⟩)) (y_fieldAddr (o' := 0) rfl Try.underlying84 rfl Try.sizeOf3 (by decide) rfl) rfl ?_
  refine s_e0 ?_
  refine e_store (vs := [.int .i64 (((m : Nat) : Int))]) (l' := [.int .i64 (((m : Nat) : Int)), .slice a1 n1 c1, .slice a2 n2 c2, .slice a3 n3 c3]) rfl rfl rfl rfl Try.sizeOf3 .h (Nat.le_of_ble_eq_true rfl) rfl ?_
  refine wpL_nil ?_
  refine thenS_n ?_
  refine wpS_seq ?_
  refine wpS_seq ?_
  refine wpS_region ?_
  refine s_y (v := .pointer (some ⟨b_5, 1, none⟩)) (y_fieldAddr (o' := 1) rfl Try.underlying84 rfl Try.sizeOf82 (by decide) rfl) rfl ?_
  refine s_y (v := .slice a1 n1 c1) (y_load1 rfl Try.isAgg82 (own1 .h rfl)) rfl ?_
  refine s_y (v := .int .i64 (((n1 : Nat) : Int))) (y_len (ty' := 0) (at_ := #[]) rfl Try.underlying82) rfl ?_
  refine s_y (v := .bool (decide ((60 : Nat) < n1))) (y_gtr (a := ((n1 : Nat) : Int)) (b := 60) (c := decide ((60 : Nat) < n1)) rfl rfl (decide_eq_decide.2 (by omega))) rfl ?_
  refine s_y (v := .bool (decide ((60 : Nat) < n1))) (y_move rfl) rfl ?_
  refine s_gy (y_fieldAddr (o' := 2) rfl Try.underlying84 rfl Try.sizeOf82 (by decide) rfl) rfl rfl rfl rfl (b' := decide ((60 : Nat) < n1)) rfl (decide_eq_false (by omega)) ?_
  refine s_gy (y_load1 rfl Try.isAgg82 (own1 .h rfl)) rfl rfl rfl rfl (b' := decide ((60 : Nat) < n1)) rfl (decide_eq_false (by omega)) ?_
  refine s_gy (y_len (ty' := 0) (at_ := #[]) rfl Try.underlying82) rfl rfl rfl rfl (b' := decide ((60 : Nat) < n1)) rfl (decide_eq_false (by omega)) ?_
  refine s_gy (y_gtr (a := ((n2 : Nat) : Int)) (b := 60) (c := decide ((60 : Nat) < n2)) rfl rfl (decide_eq_decide.2 (by omega))) rfl rfl rfl rfl (b' := decide ((60 : Nat) < n1)) rfl (decide_eq_false (by omega)) ?_
  refine s_y (v := .bool (decide ((60 : Nat) < n2))) (y_pickF (b := decide ((60 : Nat) < n1)) (v := .bool (decide ((60 : Nat) < n2))) rfl (decide_eq_false (by omega)) rfl) rfl ?_
  refine s_y (v := .bool (decide ((60 : Nat) < n2))) (y_move rfl) rfl ?_
  refine s_gy (y_fieldAddr (o' := 3) rfl Try.underlying84 rfl Try.sizeOf82 (by decide) rfl) rfl rfl rfl rfl (b' := decide ((60 : Nat) < n2)) rfl (decide_eq_false (by omega)) ?_
  refine s_gy (y_load1 rfl Try.isAgg82 (own1 .h rfl)) rfl rfl rfl rfl (b' := decide ((60 : Nat) < n2)) rfl (decide_eq_false (by omega)) ?_
  refine s_gy (y_len (ty' := 0) (at_ := #[]) rfl Try.underlying82) rfl rfl rfl rfl (b' := decide ((60 : Nat) < n2)) rfl (decide_eq_false (by omega)) ?_
  refine s_gy (y_gtr (a := ((n3 : Nat) : Int)) (b := 60) (c := decide ((60 : Nat) < n3)) rfl rfl (decide_eq_decide.2 (by omega))) rfl rfl rfl rfl (b' := decide ((60 : Nat) < n2)) rfl (decide_eq_false (by omega)) ?_
  refine s_y (v := .bool (decide ((60 : Nat) < n3))) (y_pickF (b := decide ((60 : Nat) < n2)) (v := .bool (decide ((60 : Nat) < n3))) rfl (decide_eq_false (by omega)) rfl) rfl ?_
  refine s_y (v := .bool (decide ((60 : Nat) < n3))) (y_move rfl) rfl ?_
  refine s_gy (y_loadN (vs := [.int .i64 (((m : Nat) : Int)), .slice a1 n1 c1, .slice a2 n2 c2, .slice a3 n3 c3]) rfl Try.isAgg84 Try.sizeOf84 (ownN .h rfl)) rfl rfl rfl rfl (b' := decide ((60 : Nat) < n3)) rfl (decide_eq_false (by omega)) ?_
  refine s_gy (y_call (args := #[.agg #[.int .i64 (((m : Nat) : Int)), .slice a1 n1 c1, .slice a2 n2 c2, .slice a3 n3 c3]]) (v := .int .i64 (chk11 ((m : Nat) : Int) l1 l2 l3)) Try.call93 (ev1 rfl) (fun w hs => rcheck_c ((m : Nat) : Int) a1 a2 a3 n1 c1 n2 c2 n3 c3 l1 l2 l3 w hn1 ((oldR hr1) w hs) (by omega) hn2 ((oldR hr2) w hs) (by omega) hn3 ((oldR hr3) w hs) (by omega))) rfl rfl rfl rfl (b' := decide ((60 : Nat) < n3)) rfl (decide_eq_false (by omega)) ?_
  refine s_gy (y_neq (a := chk11 ((m : Nat) : Int) l1 l2 l3) (b := 0) rfl rfl rfl) rfl rfl rfl rfl (b' := decide ((60 : Nat) < n3)) rfl (decide_eq_false (by omega)) ?_
  refine s_y (v := .bool (decide ((chk11 ((m : Nat) : Int) l1 l2 l3 : Int) ≠ 0))) (y_pickF (b := decide ((60 : Nat) < n3)) (v := .bool (decide ((chk11 ((m : Nat) : Int) l1 l2 l3 : Int) ≠ 0))) rfl (decide_eq_false (by omega)) rfl) rfl ?_
  refine wpL_nil ?_
  refine thenS_n ?_
  refine wpS_cond_F (t := decide ((chk11 ((m : Nat) : Int) l1 l2 l3 : Int) ≠ 0)) rfl (decide_eq_false (fun h => h (chk_0 hck))) ?_
  refine wpS_skip ?_
  refine thenS_n ?_
  refine wpS_seq ?_
  refine wpS_region ?_
  refine s_y (v := .agg #[.int .i64 (((m : Nat) : Int)), .slice a1 n1 c1, .slice a2 n2 c2, .slice a3 n3 c3]) (y_loadN (vs := [.int .i64 (((m : Nat) : Int)), .slice a1 n1 c1, .slice a2 n2 c2, .slice a3 n3 c3]) rfl Try.isAgg84 Try.sizeOf84 (ownN .h rfl)) rfl ?_
  refine s_y (v := .pointer (some ⟨b_1, 33, none⟩)) (y_fieldAddr (o' := 33) h1_3 Try.underlying155 rfl Try.sizeOf84 (by decide) rfl) rfl ?_
  refine s_e0 ?_
  refine e_store (vs := [.int .i64 (((m : Nat) : Int)), .slice a1 n1 c1, .slice a2 n2 c2, .slice a3 n3 c3]) (l' := (pj pre [.int .i64 (((m : Nat) : Int)), .slice a1 n1 c1, .slice a2 n2 c2, .slice a3 n3 c3, .int .i64 (((i : Nat) : Int)), .int .i64 (((m : Nat) : Int)), .int .i64 (((S : Nat) : Int)), .int .i64 (((Wn : Nat) : Int)), .slice ia inn ic])) rfl rfl rfl rfl Try.sizeOf84 (.t .h) (pre_fit 0 hpre (Nat.le_of_ble_eq_true rfl)) (pre_set 0 hpre rfl) ?_
  refine wpL_nil ?_
  refine thenS_n ?_
  refine wpS_seq ?_
  refine wpS_region ?_
  refine s_y (v := .pointer (some ⟨b_1, 41, none⟩)) (y_fieldAddr (o' := 41) h1_3 Try.underlying155 rfl Try.sizeOf153 (by decide) rfl) rfl ?_
  refine s_y (v := .slice ia inn ic) (y_load1 (v := .slice ia inn ic) rfl Try.isAgg153 (own1 .h (pre_get 8 hpre rfl))) rfl ?_
  refine s_y (v := .pointer (some ⟨b_1, 41, none⟩)) (y_fieldAddr (o' := 41) h1_3 Try.underlying155 rfl Try.sizeOf153 (by decide) rfl) rfl ?_
  refine s_y (v := .slice ia inn ic) (y_load1 (v := .slice ia inn ic) rfl Try.isAgg153 (own1 .h (pre_get 8 hpre rfl))) rfl ?_
  refine s_y (v := .int .i64 (((inn : Nat) : Int))) (y_len (ty' := 0) (at_ := #[]) rfl Try.underlying153) rfl ?_
  refine s_y (v := .pointer (some ⟨b_1, 37, none⟩)) (y_fieldAddr (o' := 37) h1_3 Try.underlying155 rfl Try.sizeOf53 (by decide) rfl) rfl ?_
  refine s_y (v := .pointer (some ⟨b_1, 37, none⟩)) (y_fieldAddr (o' := 37) rfl Try.underlying53 rfl Try.sizeOf3 (by decide) rfl) rfl ?_
  refine s_y (v := .int .i64 (((i : Nat) : Int))) (y_load1 (v := .int .i64 (((i : Nat) : Int))) rfl Try.isAgg3 (own1 .h (pre_get 4 hpre rfl))) rfl ?_
  refine s_y (v := .int .i64 ((((min inn i) : Nat) : Int))) (y_min (a := ((inn : Nat) : Int)) (b := ((i : Nat) : Int)) (c := (((min inn i) : Nat) : Int)) rfl rfl (by split <;> omega)) rfl ?_
  refine s_y (v := .slice ia (min inn i) ic) (y_sliceH (h' := (min inn i)) rfl rfl Try.underlying153 Try.sizeOf89 (by omega) (by omega) (by omega)) rfl ?_
  refine s_e rfl ?_
  refine OpE.ent (fun w hs => SH.nil0 (sz := 2) (t := 89) w hs) ?_
  refine e_appendL (enc := prV) (xs := ([] : List Pr)) (ns := ((lj.take (min inn i)) : List Pr)) (zs := (lj.take (min inn i))) (bytes := 16) prV_len prV_one Try.underlying153 (i := Try.t89) rfl rfl rfl rfl rfl (by decide) rfl rfl (by first | rfl | omega) (by rw [List.length_take]; omega) .h (rdsT prV_len (min inn i) (oldR hri)) (List.nil_append _) (by rw [List.length_take]; omega) (by rw [List.length_take]; omega) ?_
  intro a_6 c_7
  refine s_y (v := .slice a_6 ((lj.take (min inn i)).length) c_7) (y_assign rfl) rfl ?_
  refine wpL_nil ?_
  refine thenS_n ?_
  refine wpS_seq ?_
  refine wpS_block ?_
  refine wpS_loop (fun mez ds σ L => ∃ q : Nat, ∃ xs : List Pr, ∃ xa : Option Addr, ∃ xc : Nat, mez = i - q ∧ (q ≤ i) ∧ (xs.length = q) ∧ ds = [] ∧ σ 1 = .pointer (some ⟨b_1, 0, none⟩) ∧ σ 2 = .pointer (some ⟨b_2, 0, none⟩) ∧ σ 4 = .slice xa xs.length xc ∧ Ent L [osl xa xc xs.length 2 89 (xs.flatMap prV), cel b_1 155 (pj pre [.int .i64 (((m : Nat) : Int)), .slice a1 n1 c1, .slice a2 n2 c2, .slice a3 n3 c3, .int .i64 (((i : Nat) : Int)), .int .i64 (((m : Nat) : Int)), .int .i64 (((S : Nat) : Int)), .int .i64 (((Wn : Nat) : Int)), .slice ia inn ic]), cel b_5 84 [.int .i64 (((m : Nat) : Int)), .slice a1 n1 c1, .slice a2 n2 c2, .slice a3 n3 c3], cel b_2 155 zJob]) (m0 := i - (lj.take (min inn i)).length) ⟨(lj.take (min inn i)).length, (lj.take (min inn i)), a_6, c_7, rfl, (by rw [List.length_take]; omega), rfl, rfl, h1_3, h2_3, rfl, .p .h (.p .h (.p .h (.p .h .nil)))⟩ ?_
  rintro mez ds σ L ⟨q, xs, xa, xc, hm_8, hf0_8, hf1_8, rfl, h1_8, h2_8, h4_8, hE_8⟩
  refine wpS_ent hE_8 ?_; clear hE_8
  refine wpS_seq ?_
  refine wpS_seq ?_
  refine wpS_region ?_
  refine s_y (v := .slice xa xs.length xc) (y_move h4_8) rfl ?_
  refine s_y (v := .int .i64 (((xs.length : Nat) : Int))) (y_len (ty' := 0) (at_ := #[]) rfl Try.underlying153) rfl ?_
  refine s_y (v := .pointer (some ⟨b_1, 37, none⟩)) (y_fieldAddr (o' := 37) h1_8 Try.underlying155 rfl Try.sizeOf53 (by decide) rfl) rfl ?_
  refine s_y (v := .pointer (some ⟨b_1, 37, none⟩)) (y_fieldAddr (o' := 37) rfl Try.underlying53 rfl Try.sizeOf3 (by decide) rfl) rfl ?_
  refine s_y (v := .int .i64 (((i : Nat) : Int))) (y_load1 (v := .int .i64 (((i : Nat) : Int))) rfl Try.isAgg3 (own1 (.t .h) (pre_get 4 hpre rfl))) rfl ?_
  refine s_y (v := .bool (decide (xs.length < i))) (y_lss (a := ((xs.length : Nat) : Int)) (b := ((i : Nat) : Int)) (c := decide (xs.length < i)) rfl rfl (decide_eq_decide.2 (by omega))) rfl ?_
  refine wpL_nil ?_
  refine thenS_n ?_
  refine wpS_cond (t := decide (xs.length < i)) rfl (fun b9 => ?_) (fun b9 => ?_)
  ·
   have p9 := of_decide_eq_true b9
   refine wpS_skip ?_
   refine thenS_n ?_
   refine wpS_block ?_
   refine wpS_region ?_
   refine s_y (v := .slice xa xs.length xc) (y_move h4_8) rfl ?_
   refine s_y (v := .slice xa xs.length xc) (y_move h4_8) rfl ?_
   refine s_y (v := .int .i64 (((xs.length : Nat) : Int))) (y_len (ty' := 0) (at_ := #[]) rfl Try.underlying153) rfl ?_
   refine s_y (v := .int .i64 ((((xs.length % 3) : Nat) : Int))) (y_rem (a := ((xs.length : Nat) : Int)) (b := 3) (c := (((xs.length % 3) : Nat) : Int)) rfl rfl (by omega) (n_rem _ 3 (by omega))) rfl ?_
   refine s_y (v := .agg #[.int .i64 (((Int64.ofNat (xs.length % 3))).toInt), .int .i64 1]) (y_buildL (m := [(0, .int .i64 (((Int64.ofNat (xs.length % 3))).toInt)), (1, .int .i64 1)]) (vs := #[.int .i64 (((Int64.ofNat (xs.length % 3))).toInt), .int .i64 1]) (evc (congrArg (Value.int .i64) (onat (n := xs.length % 3) (by omega))) (evc rfl evn)) (fun w => by kernel_rfl)) rfl ?_
   refine s_e rfl ?_
   refine e_bsliceL (e := 89) (m := [(0, .agg #[.int .i64 (((Int64.ofNat (xs.length % 3))).toInt), .int .i64 1])]) (l := [.int .i64 (((Int64.ofNat (xs.length % 3))).toInt), .int .i64 1]) (evc rfl evn) (fun w => by kernel_rfl) ?_
   intro b_10
   refine s_e rfl ?_
   refine e_appendL (enc := prV) (xs := (xs : List Pr)) (ns := ([(((Int64.ofNat (xs.length % 3)), 1) : Pr)] : List Pr)) (zs := (xs ++ [(((Int64.ofNat (xs.length % 3)), 1) : Pr)])) (bytes := 16) prV_len prV_one Try.underlying153 (i := Try.t89) rfl rfl rfl rfl rfl (by decide) rfl rfl (by first | rfl | omega) (by first | rfl | omega) (.t .h) (fun w hs => celR .h w hs) (by first | rfl | simp) (by rw [List.length_append, List.length_singleton]; omega) (by rw [List.length_append, List.length_singleton]; omega) ?_
   intro a_11 c_12
   refine s_y (v := .slice a_11 ((xs ++ [(((Int64.ofNat (xs.length % 3)), 1) : Pr)]).length) c_12) (y_assign rfl) rfl ?_
   refine wpL_nil ?_
   refine blockS_n ?_
   refine thenS_n ?_
   exact ⟨_, by omega, ⟨(q + 1), (xs ++ [(((Int64.ofNat (xs.length % 3)), 1) : Pr)]), a_11, c_12, rfl, by omega, (by rw [List.length_append, List.length_singleton]; omega), rfl, h1_8, h2_8, rfl, .p .h (.p (.t .h) (.p (.t .h) (.p (.t .h) .nil)))⟩⟩
  ·
   have p9 := of_decide_eq_false b9
   refine wpS_exit ?_
   refine thenS_x ?_
   refine thenS_x ?_
   refine blockS_h ?_
   refine thenS_n ?_
   refine wpS_seq ?_
   refine wpS_region ?_
   refine s_y (v := .slice xa xs.length xc) (y_move h4_8) rfl ?_
   refine s_y (v := .pointer (some ⟨b_1, 41, none⟩)) (y_fieldAddr (o' := 41) h1_8 Try.underlying155 rfl Try.sizeOf153 (by decide) rfl) rfl ?_
   refine s_e0 ?_
   refine e_store (vs := [.slice xa xs.length xc]) (l' := (pj pre [.int .i64 (((m : Nat) : Int)), .slice a1 n1 c1, .slice a2 n2 c2, .slice a3 n3 c3, .int .i64 (((i : Nat) : Int)), .int .i64 (((m : Nat) : Int)), .int .i64 (((S : Nat) : Int)), .int .i64 (((Wn : Nat) : Int)), .slice xa xs.length xc])) rfl rfl rfl rfl Try.sizeOf153 (.t .h) (pre_fit 8 hpre (Nat.le_of_ble_eq_true rfl)) (pre_set 8 hpre rfl) ?_
   refine wpL_nil ?_
   refine thenS_n ?_
   refine wpS_seq ?_
   refine wpS_region ?_
   refine s_y (v := .agg (pj pre [.int .i64 (((m : Nat) : Int)), .slice a1 n1 c1, .slice a2 n2 c2, .slice a3 n3 c3, .int .i64 (((i : Nat) : Int)), .int .i64 (((m : Nat) : Int)), .int .i64 (((S : Nat) : Int)), .int .i64 (((Wn : Nat) : Int)), .slice xa xs.length xc]).toArray) (y_loadW (vs := (pj pre [.int .i64 (((m : Nat) : Int)), .slice a1 n1 c1, .slice a2 n2 c2, .slice a3 n3 c3, .int .i64 (((i : Nat) : Int)), .int .i64 (((m : Nat) : Int)), .int .i64 (((S : Nat) : Int)), .int .i64 (((Wn : Nat) : Int)), .slice xa xs.length xc])) h1_8 Try.isAgg155 Try.sizeOf155 (by first | rfl | exact pre_len hpre rfl) (fun w hs => ownN .h (by simp only [List.drop_zero]; exact List.take_length) w hs)) rfl ?_
   refine s_e0 ?_
   refine e_storeW (vs := (pj pre [.int .i64 (((m : Nat) : Int)), .slice a1 n1 c1, .slice a2 n2 c2, .slice a3 n3 c3, .int .i64 (((i : Nat) : Int)), .int .i64 (((m : Nat) : Int)), .int .i64 (((S : Nat) : Int)), .int .i64 (((Wn : Nat) : Int)), .slice xa xs.length xc])) h2_8 rfl rfl (pre_one hpo rfl) Try.sizeOf155 (by first | rfl | exact pre_len hpre rfl) (.t (.t (.t .h))) (by first | rfl | exact pre_len hpre rfl) ?_
   refine wpL_nil ?_
   refine thenS_n ?_
   refine wpS_ret ?_
   refine fin1' (M := [cel b_2 155 (pj pre [.int .i64 (((m : Nat) : Int)), .slice a1 n1 c1, .slice a2 n2 c2, .slice a3 n3 c3, .int .i64 (((i : Nat) : Int)), .int .i64 (((m : Nat) : Int)), .int .i64 (((S : Nat) : Int)), .int .i64 (((Wn : Nat) : Int)), .slice xa xs.length xc]), osl xa xc xs.length 2 89 (xs.flatMap prV)]) (.inr rfl) (.p .h (.p (.t .h) .nil)) Try.results134 (rvCW (vs := (pj pre [.int .i64 (((m : Nat) : Int)), .slice a1 n1 c1, .slice a2 n2 c2, .slice a3 n3 c3, .int .i64 (((i : Nat) : Int)), .int .i64 (((m : Nat) : Int)), .int .i64 (((S : Nat) : Int)), .int .i64 (((Wn : Nat) : Int)), .slice xa xs.length xc])) h2_8 Try.isAgg155 Try.sizeOf155 (by first | rfl | exact pre_len hpre rfl) (fun w hs => ownN .h (by simp only [List.drop_zero]; exact List.take_length) w hs)) ?_
   have e1 : xs.length = i := by omega
   have e2 := right_ok (i := i) (m := m) (S := S) (W := Wn) (by assumption) (by omega) (by omega) (by omega) (by omega) (by omega) (by omega) (by omega) (by omega)
   have e3 : i ≤ 6 := by omega
   exact fun w' hs => ⟨(((i, S, Wn), (xa, xc), xs)), by rw [e1], by rw [e1] at hs; exact hs.ent (.p (.t .h) .nil), e2, e3, e1⟩
theorem jright_no (pre : List Value) (p0 p1 p2 p3 : Int) (ia : Option Addr) (inn ic : Nat) (lj : List Pr) (m : Nat) (k0 : Int) (a1 a2 a3 : Option Addr) (n1 c1 n2 c2 n3 c3 : Nat) (l1 l2 l3 : List Opc) (w : World) (hpre : pre.length = 33) (hpo : pre.all Value.oneCell' = true) (hmm : 1 + u64of p1 % 2 = m) (hn1 : l1.length = n1) (hr1 : Rds w a1 (l1.flatMap opcV)) (hb1 : n1 ≤ 9223372036854775807) (hn2 : l2.length = n2) (hr2 : Rds w a2 (l2.flatMap opcV)) (hb2 : n2 ≤ 9223372036854775807) (hn3 : l3.length = n3) (hr3 : Rds w a3 (l3.flatMap opcV)) (hb3 : n3 ≤ 9223372036854775807) (hni : lj.length = inn) (hri : Rds w ia (lj.flatMap prV)) (hbi : inn ≤ 9223372036854775807) (hci : inn ≤ ic) (hck0 : (chkB ((m : Nat) : Int) l1 l2 l3) = false) : Makes Try.prog 134 #[.agg (pj pre [.int .i64 k0, .slice a1 n1 c1, .slice a2 n2 c2, .slice a3 n3 c3, .int .i64 p0, .int .i64 p1, .int .i64 p2, .int .i64 p3, .slice ia inn ic]).toArray] w [] (X := ((Nat × Nat × Nat) × (Option Addr × Nat) × List Pr) × ((Option Addr × Nat) × Nat)) (fun x => .agg (pj pre [.int .i64 ((m : Nat) : Int), .slice x.2.1.1 (m + 1) x.2.1.2, .slice (some ⟨x.2.2, 0, none⟩) 1 1, .slice none 0 0, .int .i64 ((x.1.1.1 : Nat) : Int), .int .i64 ((m : Nat) : Int), .int .i64 ((x.1.1.2.1 : Nat) : Int), .int .i64 ((x.1.1.2.2 : Nat) : Int), .slice x.1.2.1.1 x.1.1.1 x.1.2.1.2]).toArray) (fun x => [osl x.1.2.1.1 x.1.2.1.2 x.1.1.1 2 89 (x.1.2.2.flatMap prV), osl x.2.1.1 x.2.1.2 (m + 1) 6 86 ((smapL m).flatMap opcV), cel x.2.2 86 (sfoldL.flatMap opcV)]) (fun x => ok ⟨((x.1.1.1 : Nat) : Int), ((m : Nat) : Int), ((x.1.1.2.1 : Nat) : Int), ((x.1.1.2.2 : Nat) : Int)⟩ = true ∧ x.1.1.1 ≤ 6 ∧ x.1.2.2.length = x.1.1.1) := by
 refine calls_S (n := 124) (σ0 := (upd fr0 0 (.agg (pj pre [.int .i64 k0, .slice a1 n1 c1, .slice a2 n2 c2, .slice a3 n3 c3, .int .i64 p0, .int .i64 p1, .int .i64 p2, .int .i64 p3, .slice ia inn ic]).toArray))) (D := []) (A := []) Try.func134 rfl Try.ntmps134 rfl (a1_fr _) (SH.start w) ?_
 obtain ⟨R0, hR0⟩ : ∃ R0, 1 + u64of p0 % 6 = R0 := ⟨_, rfl⟩
 obtain ⟨S, hS0⟩ : ∃ S, 1 + u64of p2 % 3 = S := ⟨_, rfl⟩
 obtain ⟨Wn, hW0⟩ : ∃ Wn, 1 + u64of p3 % 3 = Wn := ⟨_, rfl⟩
 refine wpS_seq ?_
 refine wpS_region ?_
 refine s_e rfl ?_
 refine e_box (v := .agg (pj pre [.int .i64 k0, .slice a1 n1 c1, .slice a2 n2 c2, .slice a3 n3 c3, .int .i64 p0, .int .i64 p1, .int .i64 p2, .int .i64 p3, .slice ia inn ic]).toArray) (l := (pj pre [.int .i64 k0, .slice a1 n1 c1, .slice a2 n2 c2, .slice a3 n3 c3, .int .i64 p0, .int .i64 p1, .int .i64 p2, .int .i64 p3, .slice ia inn ic])) rfl rfl ?_
 intro b_1
 refine s_e rfl ?_
 refine e_alloc (l := zJob) Try.zeroValue155 rfl ?_
 intro b_2
 refine wpL_nil ?_
 refine thenS_n ?_
 refine wpS_seq ?_
 refine wpS_region ?_
 refine s_y (v := .pointer (some ⟨b_1, 37, none⟩)) (y_fieldAddr (o' := 37) rfl Try.underlying155 rfl Try.sizeOf53 (by decide) rfl) rfl ?_
 refine s_y (v := .pointer (some ⟨b_1, 37, none⟩)) (y_fieldAddr (o' := 37) rfl Try.underlying53 rfl Try.sizeOf3 (by decide) rfl) rfl ?_
 refine s_y (v := .int .i64 p0) (y_load1 (v := .int .i64 p0) rfl Try.isAgg3 (own1 (.t .h) (pre_get 4 hpre rfl))) rfl ?_
 refine s_y (v := .int .u64 ((((u64of p0) : Nat) : Int))) (y_convI (a := p0) (c := (((u64of p0) : Nat) : Int)) rfl Try.underlying3 Try.underlying46 (u64of_wrap _)) rfl ?_
 refine s_y (v := .int .u64 (((((u64of p0) % 6) : Nat) : Int))) (y_rem (a := (((u64of p0) : Nat) : Int)) (b := 6) (c := ((((u64of p0) % 6) : Nat) : Int)) rfl rfl (by omega) (n_rem _ 6 (by omega))) rfl ?_
 refine s_y (v := .int .i64 (((((u64of p0) % 6) : Nat) : Int))) (y_convI (a := ((((u64of p0) % 6) : Nat) : Int)) (c := ((((u64of p0) % 6) : Nat) : Int)) rfl Try.underlying46 Try.underlying3 (wI rfl (by omega) (by omega))) rfl ?_
 refine s_y (v := .int .i64 (((R0 : Nat) : Int))) (y_add (a := 1) (b := ((((u64of p0) % 6) : Nat) : Int)) (c := ((R0 : Nat) : Int)) rfl rfl (wI (by omega) (by omega) (by omega))) rfl ?_
 refine s_y (v := .pointer (some ⟨b_1, 37, none⟩)) (y_fieldAddr (o' := 37) rfl Try.underlying155 rfl Try.sizeOf53 (by decide) rfl) rfl ?_
 refine s_y (v := .pointer (some ⟨b_1, 37, none⟩)) (y_fieldAddr (o' := 37) rfl Try.underlying53 rfl Try.sizeOf3 (by decide) rfl) rfl ?_
 refine s_e0 ?_
 refine e_store (vs := [.int .i64 (((R0 : Nat) : Int))]) (l' := (pj pre [.int .i64 k0, .slice a1 n1 c1, .slice a2 n2 c2, .slice a3 n3 c3, .int .i64 (((R0 : Nat) : Int)), .int .i64 p1, .int .i64 p2, .int .i64 p3, .slice ia inn ic])) rfl rfl rfl rfl Try.sizeOf3 (.t .h) (pre_fit 4 hpre (Nat.le_of_ble_eq_true rfl)) (pre_set 4 hpre rfl) ?_
 refine wpL_nil ?_
 refine thenS_n ?_
 refine wpS_seq ?_
 refine wpS_region ?_
 refine s_y (v := .pointer (some ⟨b_1, 37, none⟩)) (y_fieldAddr (o' := 37) rfl Try.underlying155 rfl Try.sizeOf53 (by decide) rfl) rfl ?_
 refine s_y (v := .pointer (some ⟨b_1, 38, none⟩)) (y_fieldAddr (o' := 38) rfl Try.underlying53 rfl Try.sizeOf3 (by decide) rfl) rfl ?_
 refine s_y (v := .int .i64 p1) (y_load1 (v := .int .i64 p1) rfl Try.isAgg3 (own1 .h (pre_get 5 hpre rfl))) rfl ?_
 refine s_y (v := .int .u64 ((((u64of p1) : Nat) : Int))) (y_convI (a := p1) (c := (((u64of p1) : Nat) : Int)) rfl Try.underlying3 Try.underlying46 (u64of_wrap _)) rfl ?_
 refine s_y (v := .int .u64 (((((u64of p1) % 2) : Nat) : Int))) (y_rem (a := (((u64of p1) : Nat) : Int)) (b := 2) (c := ((((u64of p1) % 2) : Nat) : Int)) rfl rfl (by omega) (n_rem _ 2 (by omega))) rfl ?_
 refine s_y (v := .int .i64 (((((u64of p1) % 2) : Nat) : Int))) (y_convI (a := ((((u64of p1) % 2) : Nat) : Int)) (c := ((((u64of p1) % 2) : Nat) : Int)) rfl Try.underlying46 Try.underlying3 (wI rfl (by omega) (by omega))) rfl ?_
 refine s_y (v := .int .i64 (((m : Nat) : Int))) (y_add (a := 1) (b := ((((u64of p1) % 2) : Nat) : Int)) (c := ((m : Nat) : Int)) rfl rfl (wI (by omega) (by omega) (by omega))) rfl ?_
 refine s_y (v := .pointer (some ⟨b_1, 37, none⟩)) (y_fieldAddr (o' := 37) rfl Try.underlying155 rfl Try.sizeOf53 (by decide) rfl) rfl ?_
 refine s_y (v := .pointer (some ⟨b_1, 38, none⟩)) (y_fieldAddr (o' := 38) rfl Try.underlying53 rfl Try.sizeOf3 (by decide) rfl) rfl ?_
 refine s_e0 ?_
 refine e_store (vs := [.int .i64 (((m : Nat) : Int))]) (l' := (pj pre [.int .i64 k0, .slice a1 n1 c1, .slice a2 n2 c2, .slice a3 n3 c3, .int .i64 (((R0 : Nat) : Int)), .int .i64 (((m : Nat) : Int)), .int .i64 p2, .int .i64 p3, .slice ia inn ic])) rfl rfl rfl rfl Try.sizeOf3 .h (pre_fit 5 hpre (Nat.le_of_ble_eq_true rfl)) (pre_set 5 hpre rfl) ?_
 refine wpL_nil ?_
 refine thenS_n ?_
 refine wpS_seq ?_
 refine wpS_region ?_
 refine s_y (v := .pointer (some ⟨b_1, 37, none⟩)) (y_fieldAddr (o' := 37) rfl Try.underlying155 rfl Try.sizeOf53 (by decide) rfl) rfl ?_
 refine s_y (v := .pointer (some ⟨b_1, 39, none⟩)) (y_fieldAddr (o' := 39) rfl Try.underlying53 rfl Try.sizeOf3 (by decide) rfl) rfl ?_
 refine s_y (v := .int .i64 p2) (y_load1 (v := .int .i64 p2) rfl Try.isAgg3 (own1 .h (pre_get 6 hpre rfl))) rfl ?_
 refine s_y (v := .int .u64 ((((u64of p2) : Nat) : Int))) (y_convI (a := p2) (c := (((u64of p2) : Nat) : Int)) rfl Try.underlying3 Try.underlying46 (u64of_wrap _)) rfl ?_
 refine s_y (v := .int .u64 (((((u64of p2) % 3) : Nat) : Int))) (y_rem (a := (((u64of p2) : Nat) : Int)) (b := 3) (c := ((((u64of p2) % 3) : Nat) : Int)) rfl rfl (by omega) (n_rem _ 3 (by omega))) rfl ?_
 refine s_y (v := .int .i64 (((((u64of p2) % 3) : Nat) : Int))) (y_convI (a := ((((u64of p2) % 3) : Nat) : Int)) (c := ((((u64of p2) % 3) : Nat) : Int)) rfl Try.underlying46 Try.underlying3 (wI rfl (by omega) (by omega))) rfl ?_
 refine s_y (v := .int .i64 (((S : Nat) : Int))) (y_add (a := 1) (b := ((((u64of p2) % 3) : Nat) : Int)) (c := ((S : Nat) : Int)) rfl rfl (wI (by omega) (by omega) (by omega))) rfl ?_
 refine s_y (v := .pointer (some ⟨b_1, 37, none⟩)) (y_fieldAddr (o' := 37) rfl Try.underlying155 rfl Try.sizeOf53 (by decide) rfl) rfl ?_
 refine s_y (v := .pointer (some ⟨b_1, 39, none⟩)) (y_fieldAddr (o' := 39) rfl Try.underlying53 rfl Try.sizeOf3 (by decide) rfl) rfl ?_
 refine s_e0 ?_
 refine e_store (vs := [.int .i64 (((S : Nat) : Int))]) (l' := (pj pre [.int .i64 k0, .slice a1 n1 c1, .slice a2 n2 c2, .slice a3 n3 c3, .int .i64 (((R0 : Nat) : Int)), .int .i64 (((m : Nat) : Int)), .int .i64 (((S : Nat) : Int)), .int .i64 p3, .slice ia inn ic])) rfl rfl rfl rfl Try.sizeOf3 .h (pre_fit 6 hpre (Nat.le_of_ble_eq_true rfl)) (pre_set 6 hpre rfl) ?_
 refine wpL_nil ?_
 refine thenS_n ?_
 refine wpS_seq ?_
 refine wpS_region ?_
 refine s_y (v := .pointer (some ⟨b_1, 37, none⟩)) (y_fieldAddr (o' := 37) rfl Try.underlying155 rfl Try.sizeOf53 (by decide) rfl) rfl ?_
 refine s_y (v := .pointer (some ⟨b_1, 40, none⟩)) (y_fieldAddr (o' := 40) rfl Try.underlying53 rfl Try.sizeOf3 (by decide) rfl) rfl ?_
 refine s_y (v := .int .i64 p3) (y_load1 (v := .int .i64 p3) rfl Try.isAgg3 (own1 .h (pre_get 7 hpre rfl))) rfl ?_
 refine s_y (v := .int .u64 ((((u64of p3) : Nat) : Int))) (y_convI (a := p3) (c := (((u64of p3) : Nat) : Int)) rfl Try.underlying3 Try.underlying46 (u64of_wrap _)) rfl ?_
 refine s_y (v := .int .u64 (((((u64of p3) % 3) : Nat) : Int))) (y_rem (a := (((u64of p3) : Nat) : Int)) (b := 3) (c := ((((u64of p3) % 3) : Nat) : Int)) rfl rfl (by omega) (n_rem _ 3 (by omega))) rfl ?_
 refine s_y (v := .int .i64 (((((u64of p3) % 3) : Nat) : Int))) (y_convI (a := ((((u64of p3) % 3) : Nat) : Int)) (c := ((((u64of p3) % 3) : Nat) : Int)) rfl Try.underlying46 Try.underlying3 (wI rfl (by omega) (by omega))) rfl ?_
 refine s_y (v := .int .i64 (((Wn : Nat) : Int))) (y_add (a := 1) (b := ((((u64of p3) % 3) : Nat) : Int)) (c := ((Wn : Nat) : Int)) rfl rfl (wI (by omega) (by omega) (by omega))) rfl ?_
 refine s_y (v := .pointer (some ⟨b_1, 37, none⟩)) (y_fieldAddr (o' := 37) rfl Try.underlying155 rfl Try.sizeOf53 (by decide) rfl) rfl ?_
 refine s_y (v := .pointer (some ⟨b_1, 40, none⟩)) (y_fieldAddr (o' := 40) rfl Try.underlying53 rfl Try.sizeOf3 (by decide) rfl) rfl ?_
 refine s_e0 ?_
 refine e_store (vs := [.int .i64 (((Wn : Nat) : Int))]) (l' := (pj pre [.int .i64 k0, .slice a1 n1 c1, .slice a2 n2 c2, .slice a3 n3 c3, .int .i64 (((R0 : Nat) : Int)), .int .i64 (((m : Nat) : Int)), .int .i64 (((S : Nat) : Int)), .int .i64 (((Wn : Nat) : Int)), .slice ia inn ic])) rfl rfl rfl rfl Try.sizeOf3 .h (pre_fit 7 hpre (Nat.le_of_ble_eq_true rfl)) (pre_set 7 hpre rfl) ?_
 refine wpL_nil ?_
 refine thenS_n ?_
 refine wpS_seq ?_
 refine wpS_block ?_
 refine wpS_loop (fun mez ds σ L => ∃ i : Nat, mez = i ∧ (1 ≤ i) ∧ (i ≤ 6) ∧ ds = [] ∧ σ 1 = .pointer (some ⟨b_1, 0, none⟩) ∧ σ 2 = .pointer (some ⟨b_2, 0, none⟩) ∧ Ent L [cel b_1 155 (pj pre [.int .i64 k0, .slice a1 n1 c1, .slice a2 n2 c2, .slice a3 n3 c3, .int .i64 (((i : Nat) : Int)), .int .i64 (((m : Nat) : Int)), .int .i64 (((S : Nat) : Int)), .int .i64 (((Wn : Nat) : Int)), .slice ia inn ic]), cel b_2 155 zJob]) (m0 := R0) ⟨R0, rfl, by omega, by omega, rfl, rfl, rfl, .p .h (.p .h .nil)⟩ ?_
 rintro mez ds σ L ⟨i, hm_3, hf0_3, hf1_3, rfl, h1_3, h2_3, hE_3⟩
 refine wpS_ent hE_3 ?_; clear hE_3
 have hmq := right_le (i := i) (m := m) (S := S) (by omega) (by omega) (by omega) (by omega)
 refine wpS_seq ?_
 refine wpS_seq ?_
 refine wpS_lex (by kernel_rfl) (by kernel_rfl) ?_
 refine x_y (v := .pointer (some ⟨b_1, 37, none⟩)) (y_fieldAddr (o' := 37) h1_3 Try.underlying155 rfl Try.sizeOf53 (by decide) rfl) rfl ?_
 refine x_y (v := .pointer (some ⟨b_1, 38, none⟩)) (y_fieldAddr (o' := 38) rfl Try.underlying53 rfl Try.sizeOf3 (by decide) rfl) rfl ?_
 refine x_y (v := .int .i64 (((m : Nat) : Int))) (y_load1 (v := .int .i64 (((m : Nat) : Int))) rfl Try.isAgg3 (own1 .h (pre_get 5 hpre rfl))) rfl ?_
 refine x_y (v := .pointer (some ⟨b_1, 37, none⟩)) (y_fieldAddr (o' := 37) h1_3 Try.underlying155 rfl Try.sizeOf53 (by decide) rfl) rfl ?_
 refine x_y (v := .pointer (some ⟨b_1, 37, none⟩)) (y_fieldAddr (o' := 37) rfl Try.underlying53 rfl Try.sizeOf3 (by decide) rfl) rfl ?_
 refine x_y (v := .int .i64 (((i : Nat) : Int))) (y_load1 (v := .int .i64 (((i : Nat) : Int))) rfl Try.isAgg3 (own1 .h (pre_get 4 hpre rfl))) rfl ?_
 refine x_y (v := .pointer (some ⟨b_1, 37, none⟩)) (y_fieldAddr (o' := 37) h1_3 Try.underlying155 rfl Try.sizeOf53 (by decide) rfl) rfl ?_
 refine x_y (v := .pointer (some ⟨b_1, 39, none⟩)) (y_fieldAddr (o' := 39) rfl Try.underlying53 rfl Try.sizeOf3 (by decide) rfl) rfl ?_
 refine x_y (v := .int .i64 (((S : Nat) : Int))) (y_load1 (v := .int .i64 (((S : Nat) : Int))) rfl Try.isAgg3 (own1 .h (pre_get 6 hpre rfl))) rfl ?_
 refine x_y (v := .int .i64 ((((i + S) : Nat) : Int))) (y_add (a := ((i : Nat) : Int)) (b := ((S : Nat) : Int)) (c := (((i + S) : Nat) : Int)) rfl rfl (wI (by omega) (by omega) (by omega))) rfl ?_
 refine x_y (v := .int .i64 (((((i + S) - 1) : Nat) : Int))) (y_sub (a := (((i + S) : Nat) : Int)) (b := 1) (c := ((((i + S) - 1) : Nat) : Int)) rfl rfl (wI (by omega) (by omega) (by omega))) rfl ?_
 refine x_y (v := .pointer (some ⟨b_1, 37, none⟩)) (y_fieldAddr (o' := 37) h1_3 Try.underlying155 rfl Try.sizeOf53 (by decide) rfl) rfl ?_
 refine x_y (v := .pointer (some ⟨b_1, 39, none⟩)) (y_fieldAddr (o' := 39) rfl Try.underlying53 rfl Try.sizeOf3 (by decide) rfl) rfl ?_
 refine x_y (v := .int .i64 (((S : Nat) : Int))) (y_load1 (v := .int .i64 (((S : Nat) : Int))) rfl Try.isAgg3 (own1 .h (pre_get 6 hpre rfl))) rfl ?_
 refine x_y (v := .int .i64 ((((((i + S) - 1) / S) : Nat) : Int))) (y_quo (a := ((((i + S) - 1) : Nat) : Int)) (b := ((S : Nat) : Int)) (c := (((((i + S) - 1) / S) : Nat) : Int)) rfl rfl (by omega) (n_quo _ S (by omega) (by omega))) rfl ?_
 refine x_y (v := .int .i64 ((((m * (((i + S) - 1) / S)) : Nat) : Int))) (y_mul (a := ((m : Nat) : Int)) (b := (((((i + S) - 1) / S) : Nat) : Int)) (c := (((m * (((i + S) - 1) / S)) : Nat) : Int)) rfl rfl (wI (Int.natCast_mul _ _).symm (by omega) (by omega))) rfl ?_
 refine x_y (v := .bool (decide ((7 : Nat) < (m * (((i + S) - 1) / S))))) (y_gtr (a := (((m * (((i + S) - 1) / S)) : Nat) : Int)) (b := 7) (c := decide ((7 : Nat) < (m * (((i + S) - 1) / S)))) rfl rfl (decide_eq_decide.2 (by omega))) rfl ?_
 refine x_nil ?_
 refine thenS_n ?_
 refine wpS_cond (t := decide ((7 : Nat) < (m * (((i + S) - 1) / S)))) rfl (fun b4 => ?_) (fun b4 => ?_)
 ·
  have p4 := of_decide_eq_true b4
  have hi2 := right_ge (i := i) (m := m) (S := S) (by omega) (by omega) (by omega) (by omega)
  refine wpS_skip ?_
  refine thenS_n ?_
  refine wpS_block ?_
  refine wpS_region ?_
  refine s_y (v := .pointer (some ⟨b_1, 37, none⟩)) (y_fieldAddr (o' := 37) h1_3 Try.underlying155 rfl Try.sizeOf53 (by decide) rfl) rfl ?_
  refine s_y (v := .pointer (some ⟨b_1, 37, none⟩)) (y_fieldAddr (o' := 37) rfl Try.underlying53 rfl Try.sizeOf3 (by decide) rfl) rfl ?_
  refine s_y (v := .int .i64 (((i : Nat) : Int))) (y_load1 (v := .int .i64 (((i : Nat) : Int))) rfl Try.isAgg3 (own1 .h (pre_get 4 hpre rfl))) rfl ?_
  refine s_y (v := .int .i64 ((((i - 1) : Nat) : Int))) (y_sub (a := ((i : Nat) : Int)) (b := 1) (c := (((i - 1) : Nat) : Int)) rfl rfl (wI (by omega) (by omega) (by omega))) rfl ?_
  refine s_y (v := .pointer (some ⟨b_1, 37, none⟩)) (y_fieldAddr (o' := 37) h1_3 Try.underlying155 rfl Try.sizeOf53 (by decide) rfl) rfl ?_
  refine s_y (v := .pointer (some ⟨b_1, 37, none⟩)) (y_fieldAddr (o' := 37) rfl Try.underlying53 rfl Try.sizeOf3 (by decide) rfl) rfl ?_
  refine s_e0 ?_
  refine e_store (vs := [.int .i64 ((((i - 1) : Nat) : Int))]) (l' := (pj pre [.int .i64 k0, .slice a1 n1 c1, .slice a2 n2 c2, .slice a3 n3 c3, .int .i64 ((((i - 1) : Nat) : Int)), .int .i64 (((m : Nat) : Int)), .int .i64 (((S : Nat) : Int)), .int .i64 (((Wn : Nat) : Int)), .slice ia inn ic])) rfl rfl rfl rfl Try.sizeOf3 .h (pre_fit 4 hpre (Nat.le_of_ble_eq_true rfl)) (pre_set 4 hpre rfl) ?_
  refine wpL_nil ?_
  refine blockS_n ?_
  refine thenS_n ?_
  exact ⟨_, by omega, ⟨(i - 1), rfl, by omega, by omega, rfl, h1_3, h2_3, .p .h (.p .h .nil)⟩⟩
 ·
  have p4 := of_decide_eq_false b4
  refine wpS_exit ?_
  refine thenS_x ?_
  refine thenS_x ?_
  refine blockS_h ?_
  refine thenS_n ?_
  refine wpS_seq ?_
  refine wpS_region ?_
  refine s_y (v := .pointer (some ⟨b_1, 33, none⟩)) (y_fieldAddr (o' := 33) h1_3 Try.underlying155 rfl Try.sizeOf84 (by decide) rfl) rfl ?_
  refine s_y (v := .agg #[.int .i64 k0, .slice a1 n1 c1, .slice a2 n2 c2, .slice a3 n3 c3]) (y_loadN (vs := [.int .i64 k0, .slice a1 n1 c1, .slice a2 n2 c2, .slice a3 n3 c3]) rfl Try.isAgg84 Try.sizeOf84 (ownN .h (pre_getN 0 hpre rfl))) rfl ?_
  refine s_e rfl ?_
  refine e_alloc (l := [.int .i64 0, .slice none 0 0, .slice none 0 0, .slice none 0 0]) Try.zeroValue84 rfl ?_
  intro b_5
  refine s_e0 ?_
  refine e_store (vs := [.int .i64 k0, .slice a1 n1 c1, .slice a2 n2 c2, .slice a3 n3 c3]) (l' := [.int .i64 k0, .slice a1 n1 c1, .slice a2 n2 c2, .slice a3 n3 c3]) rfl rfl rfl rfl Try.sizeOf84 .h (Nat.le_of_ble_eq_true rfl) rfl ?_
  refine wpL_nil ?_
  refine thenS_n ?_
  refine wpS_seq ?_
  refine wpS_region ?_
  refine s_y (v := .pointer (some ⟨b_1, 37, none⟩)) (y_fieldAddr (o' := 37) h1_3 Try.underlying155 rfl Try.sizeOf53 (by decide) rfl) rfl ?_
  refine s_y (v := .pointer (some ⟨b_1, 38, none⟩)) (y_fieldAddr (o' := 38) rfl Try.underlying53 rfl Try.sizeOf3 (by decide) rfl) rfl ?_
  refine s_y (v := .int .i64 (((m : Nat) : Int))) (y_load1 (v := .int .i64 (((m : Nat) : Int))) rfl Try.isAgg3 (own1 (.t .h) (pre_get 5 hpre rfl))) rfl ?_
  refine s_y (v := .pointer (some ⟨b_5, 0, none⟩)) (y_fieldAddr (o' := 0) rfl Try.underlying84 rfl Try.sizeOf3 (by decide) rfl) rfl ?_
  refine s_e0 ?_
  refine e_store (vs := [.int .i64 (((m : Nat) : Int))]) (l' := [.int .i64 (((m : Nat) : Int)), .slice a1 n1 c1, .slice a2 n2 c2, .slice a3 n3 c3]) rfl rfl rfl rfl Try.sizeOf3 .h (Nat.le_of_ble_eq_true rfl) rfl ?_
  refine wpL_nil ?_
  refine thenS_n ?_
  refine wpS_cut (fun ds σ L => ∃ sa : Option Addr, ∃ sc : Nat, ∃ sb : Nat, ds = [] ∧ σ 1 = .pointer (some ⟨b_1, 0, none⟩) ∧ σ 2 = .pointer (some ⟨b_2, 0, none⟩) ∧ σ 3 = .pointer (some ⟨b_5, 0, none⟩) ∧ Ent L [cel b_5 84 [.int .i64 (((m : Nat) : Int)), .slice sa (m + 1) sc, .slice (some ⟨sb, 0, none⟩) 1 1, .slice none 0 0], cel b_1 155 (pj pre [.int .i64 k0, .slice a1 n1 c1, .slice a2 n2 c2, .slice a3 n3 c3, .int .i64 (((i : Nat) : Int)), .int .i64 (((m : Nat) : Int)), .int .i64 (((S : Nat) : Int)), .int .i64 (((Wn : Nat) : Int)), .slice ia inn ic]), cel b_2 155 zJob, osl sa sc (m + 1) 6 86 ((smapL m).flatMap opcV), cel sb 86 [.int .i64 2, .int .i64 0, .int .i64 0, .int .i64 1, .int .i64 0, .int .i64 0]]) ?_ ?_
  ·
   refine wpS_seq ?_
   refine wpS_region ?_
   refine s_y (v := .pointer (some ⟨b_5, 1, none⟩)) (y_fieldAddr (o' := 1) rfl Try.underlying84 rfl Try.sizeOf82 (by decide) rfl) rfl ?_
   refine s_y (v := .slice a1 n1 c1) (y_load1 rfl Try.isAgg82 (own1 .h rfl)) rfl ?_
   refine s_y (v := .int .i64 (((n1 : Nat) : Int))) (y_len (ty' := 0) (at_ := #[]) rfl Try.underlying82) rfl ?_
   refine s_y (v := .bool (decide ((60 : Nat) < n1))) (y_gtr (a := ((n1 : Nat) : Int)) (b := 60) (c := decide ((60 : Nat) < n1)) rfl rfl (decide_eq_decide.2 (by omega))) rfl ?_
   refine s_y (v := .bool (decide ((60 : Nat) < n1))) (y_move rfl) rfl ?_
   rcases Bool.eq_false_or_eq_true (decide ((60 : Nat) < n1)) with b6 | b6
   ·
    have p6 := of_decide_eq_true b6
    refine s_no rfl rfl rfl rfl (b' := decide ((60 : Nat) < n1)) rfl b6 ?_
    refine s_no rfl rfl rfl rfl (b' := decide ((60 : Nat) < n1)) rfl b6 ?_
    refine s_no rfl rfl rfl rfl (b' := decide ((60 : Nat) < n1)) rfl b6 ?_
    refine s_no rfl rfl rfl rfl (b' := decide ((60 : Nat) < n1)) rfl b6 ?_
    refine s_y (v := .bool true) (y_pickT (b := decide ((60 : Nat) < n1)) (v := .bool true) rfl b6 rfl) rfl ?_
    refine s_y (v := .bool true) (y_move rfl) rfl ?_
    refine s_no rfl rfl rfl rfl rfl rfl ?_
    refine s_no rfl rfl rfl rfl rfl rfl ?_
    refine s_no rfl rfl rfl rfl rfl rfl ?_
    refine s_no rfl rfl rfl rfl rfl rfl ?_
    refine s_y (v := .bool true) (y_pickT (v := .bool true) rfl rfl rfl) rfl ?_
    refine s_y (v := .bool true) (y_move rfl) rfl ?_
    refine s_no rfl rfl rfl rfl rfl rfl ?_
    refine s_no rfl rfl rfl rfl rfl rfl ?_
    refine s_no rfl rfl rfl rfl rfl rfl ?_
    refine s_y (v := .bool true) (y_pickT (v := .bool true) rfl rfl rfl) rfl ?_
    refine wpL_nil ?_
    refine thenS_n ?_
    refine wpS_cond_t rfl ?_
    refine wpS_region ?_
    refine s_y (v := .pointer (some ⟨b_1, 37, none⟩)) (y_fieldAddr (o' := 37) h1_3 Try.underlying155 rfl Try.sizeOf53 (by decide) rfl) rfl ?_
    refine s_y (v := .pointer (some ⟨b_1, 38, none⟩)) (y_fieldAddr (o' := 38) rfl Try.underlying53 rfl Try.sizeOf3 (by decide) rfl) rfl ?_
    refine s_y (v := .int .i64 (((m : Nat) : Int))) (y_load1 (v := .int .i64 (((m : Nat) : Int))) rfl Try.isAgg3 (own1 (.t .h) (pre_get 5 hpre rfl))) rfl ?_
    refine s_e rfl ?_
    refine e_call (f := 141) (args := #[.int .i64 (((m : Nat) : Int))]) (X := (Option Addr × Nat) × Nat) (A := []) (M := [cel b_5 84 [.int .i64 (((m : Nat) : Int)), .slice a1 n1 c1, .slice a2 n2 c2, .slice a3 n3 c3], cel b_1 155 (pj pre [.int .i64 k0, .slice a1 n1 c1, .slice a2 n2 c2, .slice a3 n3 c3, .int .i64 (((i : Nat) : Int)), .int .i64 (((m : Nat) : Int)), .int .i64 (((S : Nat) : Int)), .int .i64 (((Wn : Nat) : Int)), .slice ia inn ic]), cel b_2 155 zJob]) (V := fun x => .agg #[.int .i64 ((m : Nat) : Int), .slice x.1.1 (m + 1) x.1.2, .slice (some ⟨x.2, 0, none⟩) 1 1, .slice none 0 0]) (A' := fun x => [osl x.1.1 x.1.2 (m + 1) 6 86 ((smapL m).flatMap opcV), cel x.2 86 (sfoldL.flatMap opcV)]) (C := fun _ => True) Try.call141 (ev1 rfl) (.p .h (.p .h (.p .h .nil))) (fun w hs => sums_c m w (by omega) (by omega)) ?_
    rintro ⟨⟨a_7, c_8⟩, b_9⟩ -
    have hsm11 := smap_len m
    refine s_e0 ?_
    refine e_store (vs := [.int .i64 (((m : Nat) : Int)), .slice a_7 (m + 1) c_8, .slice (some ⟨b_9, 0, none⟩) 1 1, .slice none 0 0]) (l' := [.int .i64 (((m : Nat) : Int)), .slice a_7 (m + 1) c_8, .slice (some ⟨b_9, 0, none⟩) 1 1, .slice none 0 0]) rfl rfl rfl rfl Try.sizeOf84 (.t (.t .h)) (Nat.le_of_ble_eq_true rfl) rfl ?_
    refine wpL_nil ?_
    refine thenS_n ?_
    exact ⟨a_7, c_8, b_9, rfl, h1_3, h2_3, rfl, .p .h (.p (.t (.t .h)) (.p (.t (.t .h)) (.p .h (.p .h .nil))))⟩
   ·
    have p6 := of_decide_eq_false b6
    refine s_gy (y_fieldAddr (o' := 2) rfl Try.underlying84 rfl Try.sizeOf82 (by decide) rfl) rfl rfl rfl rfl (b' := decide ((60 : Nat) < n1)) rfl b6 ?_
    refine s_gy (y_load1 rfl Try.isAgg82 (own1 .h rfl)) rfl rfl rfl rfl (b' := decide ((60 : Nat) < n1)) rfl b6 ?_
    refine s_gy (y_len (ty' := 0) (at_ := #[]) rfl Try.underlying82) rfl rfl rfl rfl (b' := decide ((60 : Nat) < n1)) rfl b6 ?_
    refine s_gy (y_gtr (a := ((n2 : Nat) : Int)) (b := 60) (c := decide ((60 : Nat) < n2)) rfl rfl (decide_eq_decide.2 (by omega))) rfl rfl rfl rfl (b' := decide ((60 : Nat) < n1)) rfl b6 ?_
    refine s_y (v := .bool (decide ((60 : Nat) < n2))) (y_pickF (b := decide ((60 : Nat) < n1)) (v := .bool (decide ((60 : Nat) < n2))) rfl b6 rfl) rfl ?_
    refine s_y (v := .bool (decide ((60 : Nat) < n2))) (y_move rfl) rfl ?_
    rcases Bool.eq_false_or_eq_true (decide ((60 : Nat) < n2)) with b12 | b12
    ·
     have p12 := of_decide_eq_true b12
     refine s_no rfl rfl rfl rfl (b' := decide ((60 : Nat) < n2)) rfl b12 ?_
     refine s_no rfl rfl rfl rfl (b' := decide ((60 : Nat) < n2)) rfl b12 ?_
     refine s_no rfl rfl rfl rfl (b' := decide ((60 : Nat) < n2)) rfl b12 ?_
     refine s_no rfl rfl rfl rfl (b' := decide ((60 : Nat) < n2)) rfl b12 ?_
     refine s_y (v := .bool true) (y_pickT (b := decide ((60 : Nat) < n2)) (v := .bool true) rfl b12 rfl) rfl ?_
     refine s_y (v := .bool true) (y_move rfl) rfl ?_
     refine s_no rfl rfl rfl rfl rfl rfl ?_
     refine s_no rfl rfl rfl rfl rfl rfl ?_
     refine s_no rfl rfl rfl rfl rfl rfl ?_
     refine s_y (v := .bool true) (y_pickT (v := .bool true) rfl rfl rfl) rfl ?_
     refine wpL_nil ?_
     refine thenS_n ?_
     refine wpS_cond_t rfl ?_
     refine wpS_region ?_
     refine s_y (v := .pointer (some ⟨b_1, 37, none⟩)) (y_fieldAddr (o' := 37) h1_3 Try.underlying155 rfl Try.sizeOf53 (by decide) rfl) rfl ?_
     refine s_y (v := .pointer (some ⟨b_1, 38, none⟩)) (y_fieldAddr (o' := 38) rfl Try.underlying53 rfl Try.sizeOf3 (by decide) rfl) rfl ?_
     refine s_y (v := .int .i64 (((m : Nat) : Int))) (y_load1 (v := .int .i64 (((m : Nat) : Int))) rfl Try.isAgg3 (own1 (.t .h) (pre_get 5 hpre rfl))) rfl ?_
     refine s_e rfl ?_
     refine e_call (f := 141) (args := #[.int .i64 (((m : Nat) : Int))]) (X := (Option Addr × Nat) × Nat) (A := []) (M := [cel b_5 84 [.int .i64 (((m : Nat) : Int)), .slice a1 n1 c1, .slice a2 n2 c2, .slice a3 n3 c3], cel b_1 155 (pj pre [.int .i64 k0, .slice a1 n1 c1, .slice a2 n2 c2, .slice a3 n3 c3, .int .i64 (((i : Nat) : Int)), .int .i64 (((m : Nat) : Int)), .int .i64 (((S : Nat) : Int)), .int .i64 (((Wn : Nat) : Int)), .slice ia inn ic]), cel b_2 155 zJob]) (V := fun x => .agg #[.int .i64 ((m : Nat) : Int), .slice x.1.1 (m + 1) x.1.2, .slice (some ⟨x.2, 0, none⟩) 1 1, .slice none 0 0]) (A' := fun x => [osl x.1.1 x.1.2 (m + 1) 6 86 ((smapL m).flatMap opcV), cel x.2 86 (sfoldL.flatMap opcV)]) (C := fun _ => True) Try.call141 (ev1 rfl) (.p .h (.p .h (.p .h .nil))) (fun w hs => sums_c m w (by omega) (by omega)) ?_
     rintro ⟨⟨a_13, c_14⟩, b_15⟩ -
     have hsm17 := smap_len m
     refine s_e0 ?_
     refine e_store (vs := [.int .i64 (((m : Nat) : Int)), .slice a_13 (m + 1) c_14, .slice (some ⟨b_15, 0, none⟩) 1 1, .slice none 0 0]) (l' := [.int .i64 (((m : Nat) : Int)), .slice a_13 (m + 1) c_14, .slice (some ⟨b_15, 0, none⟩) 1 1, .slice none 0 0]) rfl rfl rfl rfl Try.sizeOf84 (.t (.t .h)) (Nat.le_of_ble_eq_true rfl) rfl ?_
     refine wpL_nil ?_
     refine thenS_n ?_
     exact ⟨a_13, c_14, b_15, rfl, h1_3, h2_3, rfl, .p .h (.p (.t (.t .h)) (.p (.t (.t .h)) (.p .h (.p .h .nil))))⟩
    ·
     have p12 := of_decide_eq_false b12
     refine s_gy (y_fieldAddr (o' := 3) rfl Try.underlying84 rfl Try.sizeOf82 (by decide) rfl) rfl rfl rfl rfl (b' := decide ((60 : Nat) < n2)) rfl b12 ?_
     refine s_gy (y_load1 rfl Try.isAgg82 (own1 .h rfl)) rfl rfl rfl rfl (b' := decide ((60 : Nat) < n2)) rfl b12 ?_
     refine s_gy (y_len (ty' := 0) (at_ := #[]) rfl Try.underlying82) rfl rfl rfl rfl (b' := decide ((60 : Nat) < n2)) rfl b12 ?_
     refine s_gy (y_gtr (a := ((n3 : Nat) : Int)) (b := 60) (c := decide ((60 : Nat) < n3)) rfl rfl (decide_eq_decide.2 (by omega))) rfl rfl rfl rfl (b' := decide ((60 : Nat) < n2)) rfl b12 ?_
     refine s_y (v := .bool (decide ((60 : Nat) < n3))) (y_pickF (b := decide ((60 : Nat) < n2)) (v := .bool (decide ((60 : Nat) < n3))) rfl b12 rfl) rfl ?_
     refine s_y (v := .bool (decide ((60 : Nat) < n3))) (y_move rfl) rfl ?_
     rcases Bool.eq_false_or_eq_true (decide ((60 : Nat) < n3)) with b18 | b18
     ·
      have p18 := of_decide_eq_true b18
      refine s_no rfl rfl rfl rfl (b' := decide ((60 : Nat) < n3)) rfl b18 ?_
      refine s_no rfl rfl rfl rfl (b' := decide ((60 : Nat) < n3)) rfl b18 ?_
      refine s_no rfl rfl rfl rfl (b' := decide ((60 : Nat) < n3)) rfl b18 ?_
      refine s_y (v := .bool true) (y_pickT (b := decide ((60 : Nat) < n3)) (v := .bool true) rfl b18 rfl) rfl ?_
      refine wpL_nil ?_
      refine thenS_n ?_
      refine wpS_cond_t rfl ?_
      refine wpS_region ?_
      refine s_y (v := .pointer (some ⟨b_1, 37, none⟩)) (y_fieldAddr (o' := 37) h1_3 Try.underlying155 rfl Try.sizeOf53 (by decide) rfl) rfl ?_
      refine s_y (v := .pointer (some ⟨b_1, 38, none⟩)) (y_fieldAddr (o' := 38) rfl Try.underlying53 rfl Try.sizeOf3 (by decide) rfl) rfl ?_
      refine s_y (v := .int .i64 (((m : Nat) : Int))) (y_load1 (v := .int .i64 (((m : Nat) : Int))) rfl Try.isAgg3 (own1 (.t .h) (pre_get 5 hpre rfl))) rfl ?_
      refine s_e rfl ?_
      refine e_call (f := 141) (args := #[.int .i64 (((m : Nat) : Int))]) (X := (Option Addr × Nat) × Nat) (A := []) (M := [cel b_5 84 [.int .i64 (((m : Nat) : Int)), .slice a1 n1 c1, .slice a2 n2 c2, .slice a3 n3 c3], cel b_1 155 (pj pre [.int .i64 k0, .slice a1 n1 c1, .slice a2 n2 c2, .slice a3 n3 c3, .int .i64 (((i : Nat) : Int)), .int .i64 (((m : Nat) : Int)), .int .i64 (((S : Nat) : Int)), .int .i64 (((Wn : Nat) : Int)), .slice ia inn ic]), cel b_2 155 zJob]) (V := fun x => .agg #[.int .i64 ((m : Nat) : Int), .slice x.1.1 (m + 1) x.1.2, .slice (some ⟨x.2, 0, none⟩) 1 1, .slice none 0 0]) (A' := fun x => [osl x.1.1 x.1.2 (m + 1) 6 86 ((smapL m).flatMap opcV), cel x.2 86 (sfoldL.flatMap opcV)]) (C := fun _ => True) Try.call141 (ev1 rfl) (.p .h (.p .h (.p .h .nil))) (fun w hs => sums_c m w (by omega) (by omega)) ?_
      rintro ⟨⟨a_19, c_20⟩, b_21⟩ -
      have hsm23 := smap_len m
      refine s_e0 ?_
      refine e_store (vs := [.int .i64 (((m : Nat) : Int)), .slice a_19 (m + 1) c_20, .slice (some ⟨b_21, 0, none⟩) 1 1, .slice none 0 0]) (l' := [.int .i64 (((m : Nat) : Int)), .slice a_19 (m + 1) c_20, .slice (some ⟨b_21, 0, none⟩) 1 1, .slice none 0 0]) rfl rfl rfl rfl Try.sizeOf84 (.t (.t .h)) (Nat.le_of_ble_eq_true rfl) rfl ?_
      refine wpL_nil ?_
      refine thenS_n ?_
      exact ⟨a_19, c_20, b_21, rfl, h1_3, h2_3, rfl, .p .h (.p (.t (.t .h)) (.p (.t (.t .h)) (.p .h (.p .h .nil))))⟩
     ·
      have p18 := of_decide_eq_false b18
      refine s_gy (y_loadN (vs := [.int .i64 (((m : Nat) : Int)), .slice a1 n1 c1, .slice a2 n2 c2, .slice a3 n3 c3]) rfl Try.isAgg84 Try.sizeOf84 (ownN .h rfl)) rfl rfl rfl rfl (b' := decide ((60 : Nat) < n3)) rfl b18 ?_
      refine s_gy (y_call (args := #[.agg #[.int .i64 (((m : Nat) : Int)), .slice a1 n1 c1, .slice a2 n2 c2, .slice a3 n3 c3]]) (v := .int .i64 (chk11 ((m : Nat) : Int) l1 l2 l3)) Try.call93 (ev1 rfl) (fun w hs => rcheck_c ((m : Nat) : Int) a1 a2 a3 n1 c1 n2 c2 n3 c3 l1 l2 l3 w hn1 ((oldR hr1) w hs) (by omega) hn2 ((oldR hr2) w hs) (by omega) hn3 ((oldR hr3) w hs) (by omega))) rfl rfl rfl rfl (b' := decide ((60 : Nat) < n3)) rfl b18 ?_
      refine s_gy (y_neq (a := chk11 ((m : Nat) : Int) l1 l2 l3) (b := 0) rfl rfl rfl) rfl rfl rfl rfl (b' := decide ((60 : Nat) < n3)) rfl b18 ?_
      refine s_y (v := .bool (decide ((chk11 ((m : Nat) : Int) l1 l2 l3 : Int) ≠ 0))) (y_pickF (b := decide ((60 : Nat) < n3)) (v := .bool (decide ((chk11 ((m : Nat) : Int) l1 l2 l3 : Int) ≠ 0))) rfl b18 rfl) rfl ?_
      refine wpL_nil ?_
      refine thenS_n ?_
      refine wpS_cond_T (t := decide ((chk11 ((m : Nat) : Int) l1 l2 l3 : Int) ≠ 0)) rfl (decide_eq_true (by rw [chk_8 hck0]; decide)) ?_
      refine wpS_region ?_
      refine s_y (v := .pointer (some ⟨b_1, 37, none⟩)) (y_fieldAddr (o' := 37) h1_3 Try.underlying155 rfl Try.sizeOf53 (by decide) rfl) rfl ?_
      refine s_y (v := .pointer (some ⟨b_1, 38, none⟩)) (y_fieldAddr (o' := 38) rfl Try.underlying53 rfl Try.sizeOf3 (by decide) rfl) rfl ?_
      refine s_y (v := .int .i64 (((m : Nat) : Int))) (y_load1 (v := .int .i64 (((m : Nat) : Int))) rfl Try.isAgg3 (own1 (.t .h) (pre_get 5 hpre rfl))) rfl ?_
      refine s_e rfl ?_
      refine e_call (f := 141) (args := #[.int .i64 (((m : Nat) : Int))]) (X := (Option Addr × Nat) × Nat) (A := []) (M := [cel b_5 84 [.int .i64 (((m : Nat) : Int)), .slice a1 n1 c1, .slice a2 n2 c2, .slice a3 n3 c3], cel b_1 155 (pj pre [.int .i64 k0, .slice a1 n1 c1, .slice a2 n2 c2, .slice a3 n3 c3, .int .i64 (((i : Nat) : Int)), .int .i64 (((m : Nat) : Int)), .int .i64 (((S : Nat) : Int)), .int .i64 (((Wn : Nat) : Int)), .slice ia inn ic]), cel b_2 155 zJob]) (V := fun x => .agg #[.int .i64 ((m : Nat) : Int), .slice x.1.1 (m + 1) x.1.2, .slice (some ⟨x.2, 0, none⟩) 1 1, .slice none 0 0]) (A' := fun x => [osl x.1.1 x.1.2 (m + 1) 6 86 ((smapL m).flatMap opcV), cel x.2 86 (sfoldL.flatMap opcV)]) (C := fun _ => True) Try.call141 (ev1 rfl) (.p .h (.p .h (.p .h .nil))) (fun w hs => sums_c m w (by omega) (by omega)) ?_
      rintro ⟨⟨a_24, c_25⟩, b_26⟩ -
      have hsm28 := smap_len m
      refine s_e0 ?_
      refine e_store (vs := [.int .i64 (((m : Nat) : Int)), .slice a_24 (m + 1) c_25, .slice (some ⟨b_26, 0, none⟩) 1 1, .slice none 0 0]) (l' := [.int .i64 (((m : Nat) : Int)), .slice a_24 (m + 1) c_25, .slice (some ⟨b_26, 0, none⟩) 1 1, .slice none 0 0]) rfl rfl rfl rfl Try.sizeOf84 (.t (.t .h)) (Nat.le_of_ble_eq_true rfl) rfl ?_
      refine wpL_nil ?_
      refine thenS_n ?_
      exact ⟨a_24, c_25, b_26, rfl, h1_3, h2_3, rfl, .p .h (.p (.t (.t .h)) (.p (.t (.t .h)) (.p .h (.p .h .nil))))⟩
  rintro ds σ L ⟨sa, sc, sb, rfl, h1_29, h2_29, h3_29, hE_29⟩
  refine wpS_ent hE_29 ?_; clear hE_29
  refine wpS_seq ?_
  refine wpS_region ?_
  refine s_y (v := .agg #[.int .i64 (((m : Nat) : Int)), .slice sa (m + 1) sc, .slice (some ⟨sb, 0, none⟩) 1 1, .slice none 0 0]) (y_loadN (vs := [.int .i64 (((m : Nat) : Int)), .slice sa (m + 1) sc, .slice (some ⟨sb, 0, none⟩) 1 1, .slice none 0 0]) h3_29 Try.isAgg84 Try.sizeOf84 (ownN .h rfl)) rfl ?_
  refine s_y (v := .pointer (some ⟨b_1, 33, none⟩)) (y_fieldAddr (o' := 33) h1_29 Try.underlying155 rfl Try.sizeOf84 (by decide) rfl) rfl ?_
  refine s_e0 ?_
  refine e_store (vs := [.int .i64 (((m : Nat) : Int)), .slice sa (m + 1) sc, .slice (some ⟨sb, 0, none⟩) 1 1, .slice none 0 0]) (l' := (pj pre [.int .i64 (((m : Nat) : Int)), .slice sa (m + 1) sc, .slice (some ⟨sb, 0, none⟩) 1 1, .slice none 0 0, .int .i64 (((i : Nat) : Int)), .int .i64 (((m : Nat) : Int)), .int .i64 (((S : Nat) : Int)), .int .i64 (((Wn : Nat) : Int)), .slice ia inn ic])) rfl rfl rfl rfl Try.sizeOf84 (.t .h) (pre_fit 0 hpre (Nat.le_of_ble_eq_true rfl)) (pre_set 0 hpre rfl) ?_
  refine wpL_nil ?_
  refine thenS_n ?_
  refine wpS_seq ?_
  refine wpS_region ?_
  refine s_y (v := .pointer (some ⟨b_1, 41, none⟩)) (y_fieldAddr (o' := 41) h1_29 Try.underlying155 rfl Try.sizeOf153 (by decide) rfl) rfl ?_
  refine s_y (v := .slice ia inn ic) (y_load1 (v := .slice ia inn ic) rfl Try.isAgg153 (own1 .h (pre_get 8 hpre rfl))) rfl ?_
  refine s_y (v := .pointer (some ⟨b_1, 41, none⟩)) (y_fieldAddr (o' := 41) h1_29 Try.underlying155 rfl Try.sizeOf153 (by decide) rfl) rfl ?_
  refine s_y (v := .slice ia inn ic) (y_load1 (v := .slice ia inn ic) rfl Try.isAgg153 (own1 .h (pre_get 8 hpre rfl))) rfl ?_
  refine s_y (v := .int .i64 (((inn : Nat) : Int))) (y_len (ty' := 0) (at_ := #[]) rfl Try.underlying153) rfl ?_
  refine s_y (v := .pointer (some ⟨b_1, 37, none⟩)) (y_fieldAddr (o' := 37) h1_29 Try.underlying155 rfl Try.sizeOf53 (by decide) rfl) rfl ?_
  refine s_y (v := .pointer (some ⟨b_1, 37, none⟩)) (y_fieldAddr (o' := 37) rfl Try.underlying53 rfl Try.sizeOf3 (by decide) rfl) rfl ?_
  refine s_y (v := .int .i64 (((i : Nat) : Int))) (y_load1 (v := .int .i64 (((i : Nat) : Int))) rfl Try.isAgg3 (own1 .h (pre_get 4 hpre rfl))) rfl ?_
  refine s_y (v := .int .i64 ((((min inn i) : Nat) : Int))) (y_min (a := ((inn : Nat) : Int)) (b := ((i : Nat) : Int)) (c := (((min inn i) : Nat) : Int)) rfl rfl (by split <;> omega)) rfl ?_
  refine s_y (v := .slice ia (min inn i) ic) (y_sliceH (h' := (min inn i)) rfl rfl Try.underlying153 Try.sizeOf89 (by omega) (by omega) (by omega)) rfl ?_
  refine s_e rfl ?_
  refine OpE.ent (fun w hs => SH.nil0 (sz := 2) (t := 89) w hs) ?_
  refine e_appendL (enc := prV) (xs := ([] : List Pr)) (ns := ((lj.take (min inn i)) : List Pr)) (zs := (lj.take (min inn i))) (bytes := 16) prV_len prV_one Try.underlying153 (i := Try.t89) rfl rfl rfl rfl rfl (by decide) rfl rfl (by first | rfl | omega) (by rw [List.length_take]; omega) .h (rdsT prV_len (min inn i) (oldR hri)) (List.nil_append _) (by rw [List.length_take]; omega) (by rw [List.length_take]; omega) ?_
  intro a_30 c_31
  refine s_y (v := .slice a_30 ((lj.take (min inn i)).length) c_31) (y_assign rfl) rfl ?_
  refine wpL_nil ?_
  refine thenS_n ?_
  refine wpS_seq ?_
  refine wpS_block ?_
  refine wpS_loop (fun mez ds σ L => ∃ q : Nat, ∃ xs : List Pr, ∃ xa : Option Addr, ∃ xc : Nat, mez = i - q ∧ (q ≤ i) ∧ (xs.length = q) ∧ ds = [] ∧ σ 1 = .pointer (some ⟨b_1, 0, none⟩) ∧ σ 2 = .pointer (some ⟨b_2, 0, none⟩) ∧ σ 4 = .slice xa xs.length xc ∧ Ent L [osl xa xc xs.length 2 89 (xs.flatMap prV), cel b_1 155 (pj pre [.int .i64 (((m : Nat) : Int)), .slice sa (m + 1) sc, .slice (some ⟨sb, 0, none⟩) 1 1, .slice none 0 0, .int .i64 (((i : Nat) : Int)), .int .i64 (((m : Nat) : Int)), .int .i64 (((S : Nat) : Int)), .int .i64 (((Wn : Nat) : Int)), .slice ia inn ic]), cel b_5 84 [.int .i64 (((m : Nat) : Int)), .slice sa (m + 1) sc, .slice (some ⟨sb, 0, none⟩) 1 1, .slice none 0 0], cel b_2 155 zJob, osl sa sc (m + 1) 6 86 ((smapL m).flatMap opcV), cel sb 86 [.int .i64 2, .int .i64 0, .int .i64 0, .int .i64 1, .int .i64 0, .int .i64 0]]) (m0 := i - (lj.take (min inn i)).length) ⟨(lj.take (min inn i)).length, (lj.take (min inn i)), a_30, c_31, rfl, (by rw [List.length_take]; omega), rfl, rfl, h1_29, h2_29, rfl, .p .h (.p .h (.p .h (.p .h (.p .h (.p .h .nil)))))⟩ ?_
  rintro mez ds σ L ⟨q, xs, xa, xc, hm_32, hf0_32, hf1_32, rfl, h1_32, h2_32, h4_32, hE_32⟩
  refine wpS_ent hE_32 ?_; clear hE_32
  refine wpS_seq ?_
  refine wpS_seq ?_
  refine wpS_region ?_
  refine s_y (v := .slice xa xs.length xc) (y_move h4_32) rfl ?_
  refine s_y (v := .int .i64 (((xs.length : Nat) : Int))) (y_len (ty' := 0) (at_ := #[]) rfl Try.underlying153) rfl ?_
  refine s_y (v := .pointer (some ⟨b_1, 37, none⟩)) (y_fieldAddr (o' := 37) h1_32 Try.underlying155 rfl Try.sizeOf53 (by decide) rfl) rfl ?_
  refine s_y (v := .pointer (some ⟨b_1, 37, none⟩)) (y_fieldAddr (o' := 37) rfl Try.underlying53 rfl Try.sizeOf3 (by decide) rfl) rfl ?_
  refine s_y (v := .int .i64 (((i : Nat) : Int))) (y_load1 (v := .int .i64 (((i : Nat) : Int))) rfl Try.isAgg3 (own1 (.t .h) (pre_get 4 hpre rfl))) rfl ?_
  refine s_y (v := .bool (decide (xs.length < i))) (y_lss (a := ((xs.length : Nat) : Int)) (b := ((i : Nat) : Int)) (c := decide (xs.length < i)) rfl rfl (decide_eq_decide.2 (by omega))) rfl ?_
  refine wpL_nil ?_
  refine thenS_n ?_
  refine wpS_cond (t := decide (xs.length < i)) rfl (fun b33 => ?_) (fun b33 => ?_)
  ·
   have p33 := of_decide_eq_true b33
   refine wpS_skip ?_
   refine thenS_n ?_
   refine wpS_block ?_
   refine wpS_region ?_
   refine s_y (v := .slice xa xs.length xc) (y_move h4_32) rfl ?_
   refine s_y (v := .slice xa xs.length xc) (y_move h4_32) rfl ?_
   refine s_y (v := .int .i64 (((xs.length : Nat) : Int))) (y_len (ty' := 0) (at_ := #[]) rfl Try.underlying153) rfl ?_
   refine s_y (v := .int .i64 ((((xs.length % 3) : Nat) : Int))) (y_rem (a := ((xs.length : Nat) : Int)) (b := 3) (c := (((xs.length % 3) : Nat) : Int)) rfl rfl (by omega) (n_rem _ 3 (by omega))) rfl ?_
   refine s_y (v := .agg #[.int .i64 (((Int64.ofNat (xs.length % 3))).toInt), .int .i64 1]) (y_buildL (m := [(0, .int .i64 (((Int64.ofNat (xs.length % 3))).toInt)), (1, .int .i64 1)]) (vs := #[.int .i64 (((Int64.ofNat (xs.length % 3))).toInt), .int .i64 1]) (evc (congrArg (Value.int .i64) (onat (n := xs.length % 3) (by omega))) (evc rfl evn)) (fun w => by kernel_rfl)) rfl ?_
   refine s_e rfl ?_
   refine e_bsliceL (e := 89) (m := [(0, .agg #[.int .i64 (((Int64.ofNat (xs.length % 3))).toInt), .int .i64 1])]) (l := [.int .i64 (((Int64.ofNat (xs.length % 3))).toInt), .int .i64 1]) (evc rfl evn) (fun w => by kernel_rfl) ?_
   intro b_34
   refine s_e rfl ?_
   refine e_appendL (enc := prV) (xs := (xs : List Pr)) (ns := ([(((Int64.ofNat (xs.length % 3)), 1) : Pr)] : List Pr)) (zs := (xs ++ [(((Int64.ofNat (xs.length % 3)), 1) : Pr)])) (bytes := 16) prV_len prV_one Try.underlying153 (i := Try.t89) rfl rfl rfl rfl rfl (by decide) rfl rfl (by first | rfl | omega) (by first | rfl | omega) (.t .h) (fun w hs => celR .h w hs) (by first | rfl | simp) (by rw [List.length_append, List.length_singleton]; omega) (by rw [List.length_append, List.length_singleton]; omega) ?_
   intro a_35 c_36
   refine s_y (v := .slice a_35 ((xs ++ [(((Int64.ofNat (xs.length % 3)), 1) : Pr)]).length) c_36) (y_assign rfl) rfl ?_
   refine wpL_nil ?_
   refine blockS_n ?_
   refine thenS_n ?_
   exact ⟨_, by omega, ⟨(q + 1), (xs ++ [(((Int64.ofNat (xs.length % 3)), 1) : Pr)]), a_35, c_36, rfl, by omega, (by rw [List.length_append, List.length_singleton]; omega), rfl, h1_32, h2_32, rfl, .p .h (.p (.t .h) (.p (.t .h) (.p (.t .h) (.p (.t .h) (.p (.t .h) .nil)))))⟩⟩
  ·
   have p33 := of_decide_eq_false b33
   refine wpS_exit ?_
   refine thenS_x ?_
   refine thenS_x ?_
   refine blockS_h ?_
   refine thenS_n ?_
   refine wpS_seq ?_
   refine wpS_region ?_
   refine s_y (v := .slice xa xs.length xc) (y_move h4_32) rfl ?_
   refine s_y (v := .pointer (some ⟨b_1, 41, none⟩)) (y_fieldAddr (o' := 41) h1_32 Try.underlying155 rfl Try.sizeOf153 (by decide) rfl) rfl ?_
   refine s_e0 ?_
   refine e_store (vs := [.slice xa xs.length xc]) (l' := (pj pre [.int .i64 (((m : Nat) : Int)), .slice sa (m + 1) sc, .slice (some ⟨sb, 0, none⟩) 1 1, .slice none 0 0, .int .i64 (((i : Nat) : Int)), .int .i64 (((m : Nat) : Int)), .int .i64 (((S : Nat) : Int)), .int .i64 (((Wn : Nat) : Int)), .slice xa xs.length xc])) rfl rfl rfl rfl Try.sizeOf153 (.t .h) (pre_fit 8 hpre (Nat.le_of_ble_eq_true rfl)) (pre_set 8 hpre rfl) ?_
   refine wpL_nil ?_
   refine thenS_n ?_
   refine wpS_seq ?_
   refine wpS_region ?_
   refine s_y (v := .agg (pj pre [.int .i64 (((m : Nat) : Int)), .slice sa (m + 1) sc, .slice (some ⟨sb, 0, none⟩) 1 1, .slice none 0 0, .int .i64 (((i : Nat) : Int)), .int .i64 (((m : Nat) : Int)), .int .i64 (((S : Nat) : Int)), .int .i64 (((Wn : Nat) : Int)), .slice xa xs.length xc]).toArray) (y_loadW (vs := (pj pre [.int .i64 (((m : Nat) : Int)), .slice sa (m + 1) sc, .slice (some ⟨sb, 0, none⟩) 1 1, .slice none 0 0, .int .i64 (((i : Nat) : Int)), .int .i64 (((m : Nat) : Int)), .int .i64 (((S : Nat) : Int)), .int .i64 (((Wn : Nat) : Int)), .slice xa xs.length xc])) h1_32 Try.isAgg155 Try.sizeOf155 (by first | rfl | exact pre_len hpre rfl) (fun w hs => ownN .h (by simp only [List.drop_zero]; exact List.take_length) w hs)) rfl ?_
   refine s_e0 ?_
   refine e_storeW (vs := (pj pre [.int .i64 (((m : Nat) : Int)), .slice sa (m + 1) sc, .slice (some ⟨sb, 0, none⟩) 1 1, .slice none 0 0, .int .i64 (((i : Nat) : Int)), .int .i64 (((m : Nat) : Int)), .int .i64 (((S : Nat) : Int)), .int .i64 (((Wn : Nat) : Int)), .slice xa xs.length xc])) h2_32 rfl rfl (pre_one hpo rfl) Try.sizeOf155 (by first | rfl | exact pre_len hpre rfl) (.t (.t (.t .h))) (by first | rfl | exact pre_len hpre rfl) ?_
   refine wpL_nil ?_
   refine thenS_n ?_
   refine wpS_ret ?_
   refine fin1' (M := [cel b_2 155 (pj pre [.int .i64 (((m : Nat) : Int)), .slice sa (m + 1) sc, .slice (some ⟨sb, 0, none⟩) 1 1, .slice none 0 0, .int .i64 (((i : Nat) : Int)), .int .i64 (((m : Nat) : Int)), .int .i64 (((S : Nat) : Int)), .int .i64 (((Wn : Nat) : Int)), .slice xa xs.length xc]), osl xa xc xs.length 2 89 (xs.flatMap prV), osl sa sc (m + 1) 6 86 ((smapL m).flatMap opcV), cel sb 86 [.int .i64 2, .int .i64 0, .int .i64 0, .int .i64 1, .int .i64 0, .int .i64 0]]) (.inr rfl) (.p .h (.p (.t .h) (.p (.t (.t .h)) (.p (.t (.t .h)) .nil)))) Try.results134 (rvCW (vs := (pj pre [.int .i64 (((m : Nat) : Int)), .slice sa (m + 1) sc, .slice (some ⟨sb, 0, none⟩) 1 1, .slice none 0 0, .int .i64 (((i : Nat) : Int)), .int .i64 (((m : Nat) : Int)), .int .i64 (((S : Nat) : Int)), .int .i64 (((Wn : Nat) : Int)), .slice xa xs.length xc])) h2_32 Try.isAgg155 Try.sizeOf155 (by first | rfl | exact pre_len hpre rfl) (fun w hs => ownN .h (by simp only [List.drop_zero]; exact List.take_length) w hs)) ?_
   have e1 : xs.length = i := by omega
   have e2 := right_ok (i := i) (m := m) (S := S) (W := Wn) (by assumption) (by omega) (by omega) (by omega) (by omega) (by omega) (by omega) (by omega) (by omega)
   have e3 : i ≤ 6 := by omega
   exact fun w' hs => ⟨(((i, S, Wn), (xa, xc), xs), ((sa, sc), sb)), by rw [e1], by rw [e1] at hs; exact hs.ent (.p (.t .h) (.p (.t .h) (.p (.t .h) .nil))), e2, e3, e1⟩
end Go.Proofs.Ytldkjjnjdjfipaa
namespace Go.Proofs.Ytldkjjnjdjfipaa
open Go Go.RowKit
set_option linter.unusedVariables false
set_option linter.unusedSimpArgs false
set_option maxRecDepth 10000
set_option maxHeartbeats 1000000
theorem pshape_ok (pre : List Value) (p0 p1 p2 p3 : Int) (ia : Option Addr) (inn ic : Nat) (lj : List Pr) (m : Nat) (k0 : Int) (a1 a2 a3 : Option Addr) (n1 c1 n2 c2 n3 c3 : Nat) (l1 l2 l3 : List Opc) (q : Int) (q1 : -9223372036854775808 ≤ q) (q2 : q < 9223372036854775808) (w : World) (hpre : pre.length = 33) (hpo : pre.all Value.oneCell' = true) (hmm : 1 + u64of p1 % 2 = m) (hn1 : l1.length = n1) (hr1 : Rds w a1 (l1.flatMap opcV)) (hb1 : n1 ≤ 9223372036854775807) (hn2 : l2.length = n2) (hr2 : Rds w a2 (l2.flatMap opcV)) (hb2 : n2 ≤ 9223372036854775807) (hn3 : l3.length = n3) (hr3 : Rds w a3 (l3.flatMap opcV)) (hb3 : n3 ≤ 9223372036854775807) (hni : lj.length = inn) (hri : Rds w ia (lj.flatMap prV)) (hbi : inn ≤ 9223372036854775807) (hci : inn ≤ ic)  (hck : (chkB ((m : Nat) : Int) l1 l2 l3) = true) : Pure Try.prog 37 #[.agg (pj pre [.int .i64 k0, .slice a1 n1 c1, .slice a2 n2 c2, .slice a3 n3 c3, .int .i64 p0, .int .i64 p1, .int .i64 p2, .int .i64 p3, .slice ia inn ic]).toArray, .int .i64 q] w (.bool true) := by
 refine calls_S (n := 103) (σ0 := (upd (upd fr0 0 (.agg (pj pre [.int .i64 k0, .slice a1 n1 c1, .slice a2 n2 c2, .slice a3 n3 c3, .int .i64 p0, .int .i64 p1, .int .i64 p2, .int .i64 p3, .slice ia inn ic]).toArray)) 1 (.int .i64 q))) (D := []) (A := []) Try.func37 rfl Try.ntmps37 rfl (a2_fr _ _) (SH.start w) ?_
 have hq1 := part_len (chk_bd hck).2.2.1
 have hq2 := part_len (chk_bd hck).2.2.2.1
 have hq3 := part_len (chk_bd hck).2.2.2.2
 refine wpS_seq ?_
 refine wpS_region ?_
 refine s_e rfl ?_
 refine e_box (v := .agg (pj pre [.int .i64 k0, .slice a1 n1 c1, .slice a2 n2 c2, .slice a3 n3 c3, .int .i64 p0, .int .i64 p1, .int .i64 p2, .int .i64 p3, .slice ia inn ic]).toArray) (l := (pj pre [.int .i64 k0, .slice a1 n1 c1, .slice a2 n2 c2, .slice a3 n3 c3, .int .i64 p0, .int .i64 p1, .int .i64 p2, .int .i64 p3, .slice ia inn ic])) rfl rfl ?_
 intro b_1
 refine s_y (v := .bool false) (y_assign rfl) rfl ?_
 refine wpL_nil ?_
 refine thenS_n ?_
 refine wpS_seq ?_
 refine wpS_region ?_
 refine s_y (v := .agg (pj pre [.int .i64 k0, .slice a1 n1 c1, .slice a2 n2 c2, .slice a3 n3 c3, .int .i64 p0, .int .i64 p1, .int .i64 p2, .int .i64 p3, .slice ia inn ic]).toArray) (y_loadW (vs := (pj pre [.int .i64 k0, .slice a1 n1 c1, .slice a2 n2 c2, .slice a3 n3 c3, .int .i64 p0, .int .i64 p1, .int .i64 p2, .int .i64 p3, .slice ia inn ic])) rfl Try.isAgg155 Try.sizeOf155 (by first | rfl | exact pre_len hpre rfl) (fun w hs => ownN .h (by simp only [List.drop_zero]; exact List.take_length) w hs)) rfl ?_
 refine s_e rfl ?_
 refine e_call (f := 134) (args := #[.agg (pj pre [.int .i64 k0, .slice a1 n1 c1, .slice a2 n2 c2, .slice a3 n3 c3, .int .i64 p0, .int .i64 p1, .int .i64 p2, .int .i64 p3, .slice ia inn ic]).toArray]) (X := ((Nat × Nat × Nat) × (Option Addr × Nat) × List Pr)) (A := []) (M := [cel b_1 155 (pj pre [.int .i64 k0, .slice a1 n1 c1, .slice a2 n2 c2, .slice a3 n3 c3, .int .i64 p0, .int .i64 p1, .int .i64 p2, .int .i64 p3, .slice ia inn ic])]) (V := fun x => .agg (pj pre [.int .i64 ((m : Nat) : Int), .slice a1 n1 c1, .slice a2 n2 c2, .slice a3 n3 c3, .int .i64 ((x.1.1 : Nat) : Int), .int .i64 ((m : Nat) : Int), .int .i64 ((x.1.2.1 : Nat) : Int), .int .i64 ((x.1.2.2 : Nat) : Int), .slice x.2.1.1 x.1.1 x.2.1.2]).toArray) (A' := fun x => [osl x.2.1.1 x.2.1.2 x.1.1 2 89 (x.2.2.flatMap prV)]) (C := fun x => ok ⟨((x.1.1 : Nat) : Int), ((m : Nat) : Int), ((x.1.2.1 : Nat) : Int), ((x.1.2.2 : Nat) : Int)⟩ = true ∧ x.1.1 ≤ 6 ∧ x.2.2.length = x.1.1) Try.call134 (ev1 rfl) (.p .h .nil) (fun w hs => jright_ok pre p0 p1 p2 p3 ia inn ic lj m k0 a1 a2 a3 n1 c1 n2 c2 n3 c3 l1 l2 l3 w hpre hpo hmm hn1 (oldR hr1 w hs) hb1 hn2 (oldR hr2 w hs) hb2 hn3 (oldR hr3 w hs) hb3 hni (oldR hri w hs) hbi hci hck) ?_
 rintro ⟨⟨R, S, Wn⟩, ⟨ga, gc⟩, li⟩ ⟨hok, hR6, hll⟩
 replace hok : ok ⟨((R : Nat) : Int), ((m : Nat) : Int), ((S : Nat) : Int), ((Wn : Nat) : Int)⟩ = true := hok
 replace hR6 : R ≤ 6 := hR6
 replace hll : li.length = R := hll
 obtain ⟨nb, K, hj⟩ := jp_of hok
 obtain ⟨hjok, hjb, hjs, hK5, ⟨hR1, hR2⟩, ⟨hm1, hm2⟩, ⟨hS1, hS2⟩, hnm, hrs, hrs2, ⟨hnb1, hnb2⟩⟩ := hj
 have hj : JP R m S ((Wn : Nat) : Int) nb K := ⟨hjok, hjb, hjs, hK5, ⟨hR1, hR2⟩, ⟨hm1, hm2⟩, ⟨hS1, hS2⟩, hnm, hrs, hrs2, ⟨hnb1, hnb2⟩⟩
 have hp2 : 2 ^ K ≤ 32 := Nat.pow_le_pow_right (n := 2) (by decide) hK5
 have hp1 := Nat.two_pow_pos K
 obtain ⟨t, hte⟩ : ∃ t, 1 + u64of q % (2 + 2 * (rnd ((2 ^ K : Nat) : Int))) = t := ⟨_, rfl⟩
 have htl : u64of q % (2 + 2 * (rnd ((2 ^ K : Nat) : Int))) < 2 + 2 * (rnd ((2 ^ K : Nat) : Int)) := Nat.mod_lt _ (by omega)
 have hrt : (rnd ((2 ^ K : Nat) : Int)) ≤ 21 := rnd21 (by omega)
 refine s_e0 ?_
 refine e_storeW (vs := (pj pre [.int .i64 (((m : Nat) : Int)), .slice a1 n1 c1, .slice a2 n2 c2, .slice a3 n3 c3, .int .i64 (((R : Nat) : Int)), .int .i64 (((m : Nat) : Int)), .int .i64 (((S : Nat) : Int)), .int .i64 (((Wn : Nat) : Int)), .slice ga R gc])) rfl rfl rfl (pre_one hpo rfl) Try.sizeOf155 (by first | rfl | exact pre_len hpre rfl) (.t .h) (by first | rfl | exact pre_len hpre rfl) ?_
 refine wpL_nil ?_
 refine thenS_n ?_
 refine wpS_seq ?_
 refine wpS_region ?_
 refine s_y (v := .pointer (some ⟨b_1, 37, none⟩)) (y_fieldAddr (o' := 37) rfl Try.underlying155 rfl Try.sizeOf53 (by decide) rfl) rfl ?_
 refine s_y (v := .agg #[.int .i64 (((R : Nat) : Int)), .int .i64 (((m : Nat) : Int)), .int .i64 (((S : Nat) : Int)), .int .i64 (((Wn : Nat) : Int))]) (y_loadN (vs := [.int .i64 (((R : Nat) : Int)), .int .i64 (((m : Nat) : Int)), .int .i64 (((S : Nat) : Int)), .int .i64 (((Wn : Nat) : Int))]) rfl Try.isAgg53 Try.sizeOf53 (ownN .h (pre_getN 4 hpre rfl))) rfl ?_
 refine s_y (v := .tuple #[.int .i64 (((nb : Nat) : Int)), .int .i64 ((((2 ^ K) : Nat) : Int))]) (y_call (args := #[.agg #[.int .i64 (((R : Nat) : Int)), .int .i64 (((m : Nat) : Int)), .int .i64 (((S : Nat) : Int)), .int .i64 (((Wn : Nat) : Int))]]) (v := .tuple #[.int .i64 (((nb : Nat) : Int)), .int .i64 ((((2 ^ K) : Nat) : Int))]) Try.call135 (ev1 rfl) (fun w hs => blocksJ_c hj w)) rfl ?_
 refine s_y (v := .tuple #[.int .i64 (((nb : Nat) : Int)), .int .i64 ((((2 ^ K) : Nat) : Int))]) (y_move rfl) rfl ?_
 refine s_y (v := .int .i64 (((nb : Nat) : Int))) (y_extract (v := .int .i64 (((nb : Nat) : Int))) rfl rfl) rfl ?_
 refine s_y (v := .int .i64 ((((2 ^ K) : Nat) : Int))) (y_extract (v := .int .i64 ((((2 ^ K) : Nat) : Int))) rfl rfl) rfl ?_
 refine s_y (v := .int .i64 (((nb : Nat) : Int))) (y_assign rfl) rfl ?_
 refine s_y (v := .int .i64 ((((2 ^ K) : Nat) : Int))) (y_assign rfl) rfl ?_
 refine wpL_nil ?_
 refine thenS_n ?_
 refine wpS_seq ?_
 refine wpS_region ?_
 refine s_y (v := .int .i64 ((((2 ^ K) : Nat) : Int))) (y_move rfl) rfl ?_
 refine s_y (v := .int .i64 ((((rnd ((((2 ^ K) : Nat) : Int))) : Nat) : Int))) (y_call (args := #[.int .i64 ((((2 ^ K) : Nat) : Int))]) (v := .int .i64 ((((rnd ((((2 ^ K) : Nat) : Int))) : Nat) : Int))) Try.call56 (ev1 rfl) (fun w hs => rrnd_c ((((2 ^ K) : Nat) : Int)) (by omega) (by omega) w)) rfl ?_
 refine s_y (v := .int .i64 ((((rnd ((((2 ^ K) : Nat) : Int))) : Nat) : Int))) (y_assign rfl) rfl ?_
 refine wpL_nil ?_
 refine thenS_n ?_
 refine wpS_seq ?_
 refine wpS_region ?_
 refine s_y (v := .int .i64 q) (y_move rfl) rfl ?_
 refine s_y (v := .int .u64 ((((u64of q) : Nat) : Int))) (y_convI (a := q) (c := (((u64of q) : Nat) : Int)) rfl Try.underlying3 Try.underlying46 (u64of_wrap _)) rfl ?_
 refine s_y (v := .int .i64 ((((rnd ((((2 ^ K) : Nat) : Int))) : Nat) : Int))) (y_move rfl) rfl ?_
 refine s_y (v := .int .i64 ((((2 * (rnd ((((2 ^ K) : Nat) : Int)))) : Nat) : Int))) (y_mul (a := 2) (b := (((rnd ((((2 ^ K) : Nat) : Int))) : Nat) : Int)) (c := (((2 * (rnd ((((2 ^ K) : Nat) : Int)))) : Nat) : Int)) rfl rfl (wI (by omega) (by omega) (by omega))) rfl ?_
 refine s_y (v := .int .i64 ((((2 + (2 * (rnd ((((2 ^ K) : Nat) : Int))))) : Nat) : Int))) (y_add (a := 2) (b := (((2 * (rnd ((((2 ^ K) : Nat) : Int)))) : Nat) : Int)) (c := (((2 + (2 * (rnd ((((2 ^ K) : Nat) : Int))))) : Nat) : Int)) rfl rfl (wI (by omega) (by omega) (by omega))) rfl ?_
 refine s_y (v := .int .u64 ((((2 + (2 * (rnd ((((2 ^ K) : Nat) : Int))))) : Nat) : Int))) (y_convI (a := (((2 + (2 * (rnd ((((2 ^ K) : Nat) : Int))))) : Nat) : Int)) (c := (((2 + (2 * (rnd ((((2 ^ K) : Nat) : Int))))) : Nat) : Int)) rfl Try.underlying3 Try.underlying46 (wU rfl (by omega) (by omega))) rfl ?_
 refine s_y (v := .int .u64 (((((u64of q) % (2 + (2 * (rnd ((((2 ^ K) : Nat) : Int)))))) : Nat) : Int))) (y_rem (a := (((u64of q) : Nat) : Int)) (b := (((2 + (2 * (rnd ((((2 ^ K) : Nat) : Int))))) : Nat) : Int)) (c := ((((u64of q) % (2 + (2 * (rnd ((((2 ^ K) : Nat) : Int)))))) : Nat) : Int)) rfl rfl (by omega) (n_rem _ (2 + (2 * (rnd ((((2 ^ K) : Nat) : Int))))) (by omega))) rfl ?_
 refine s_y (v := .int .i64 (((((u64of q) % (2 + (2 * (rnd ((((2 ^ K) : Nat) : Int)))))) : Nat) : Int))) (y_convI (a := ((((u64of q) % (2 + (2 * (rnd ((((2 ^ K) : Nat) : Int)))))) : Nat) : Int)) (c := ((((u64of q) % (2 + (2 * (rnd ((((2 ^ K) : Nat) : Int)))))) : Nat) : Int)) rfl Try.underlying46 Try.underlying3 (wI rfl (by omega) (by omega))) rfl ?_
 refine s_y (v := .int .i64 (((t : Nat) : Int))) (y_add (a := 1) (b := ((((u64of q) % (2 + (2 * (rnd ((((2 ^ K) : Nat) : Int)))))) : Nat) : Int)) (c := ((t : Nat) : Int)) rfl rfl (wI (by omega) (by omega) (by omega))) rfl ?_
 refine s_y (v := .int .i64 (((t : Nat) : Int))) (y_assign rfl) rfl ?_
 refine wpL_nil ?_
 refine thenS_n ?_
 refine wpS_seq ?_
 refine wpS_region ?_
 refine s_y (v := .pointer (some ⟨b_1, 33, none⟩)) (y_fieldAddr (o' := 33) rfl Try.underlying155 rfl Try.sizeOf84 (by decide) rfl) rfl ?_
 refine s_y (v := .agg #[.int .i64 (((m : Nat) : Int)), .slice a1 n1 c1, .slice a2 n2 c2, .slice a3 n3 c3]) (y_loadN (vs := [.int .i64 (((m : Nat) : Int)), .slice a1 n1 c1, .slice a2 n2 c2, .slice a3 n3 c3]) rfl Try.isAgg84 Try.sizeOf84 (ownN .h (pre_getN 0 hpre rfl))) rfl ?_
 refine s_y (v := .pointer (some ⟨b_1, 37, none⟩)) (y_fieldAddr (o' := 37) rfl Try.underlying155 rfl Try.sizeOf53 (by decide) rfl) rfl ?_
 refine s_y (v := .agg #[.int .i64 (((R : Nat) : Int)), .int .i64 (((m : Nat) : Int)), .int .i64 (((S : Nat) : Int)), .int .i64 (((Wn : Nat) : Int))]) (y_loadN (vs := [.int .i64 (((R : Nat) : Int)), .int .i64 (((m : Nat) : Int)), .int .i64 (((S : Nat) : Int)), .int .i64 (((Wn : Nat) : Int))]) rfl Try.isAgg53 Try.sizeOf53 (ownN .h (pre_getN 4 hpre rfl))) rfl ?_
 refine s_y (v := .pointer (some ⟨b_1, 41, none⟩)) (y_fieldAddr (o' := 41) rfl Try.underlying155 rfl Try.sizeOf153 (by decide) rfl) rfl ?_
 refine s_y (v := .slice ga R gc) (y_load1 (v := .slice ga R gc) rfl Try.isAgg153 (own1 .h (pre_get 8 hpre rfl))) rfl ?_
 refine s_y (v := .int .i64 (((t : Nat) : Int))) (y_move rfl) rfl ?_
 refine s_e rfl ?_
 refine e_call (f := 136) (args := #[.agg #[.int .i64 (((m : Nat) : Int)), .slice a1 n1 c1, .slice a2 n2 c2, .slice a3 n3 c3], .agg #[.int .i64 (((R : Nat) : Int)), .int .i64 (((m : Nat) : Int)), .int .i64 (((S : Nat) : Int)), .int .i64 (((Wn : Nat) : Int))], .slice ga R gc, .int .i64 (((t : Nat) : Int))]) (X := (Option Addr × Nat) × List SlH) (A := []) (M := [cel b_1 155 (pj pre [.int .i64 (((m : Nat) : Int)), .slice a1 n1 c1, .slice a2 n2 c2, .slice a3 n3 c3, .int .i64 (((R : Nat) : Int)), .int .i64 (((m : Nat) : Int)), .int .i64 (((S : Nat) : Int)), .int .i64 (((Wn : Nat) : Int)), .slice ga R gc]), osl ga gc R 2 89 (li.flatMap prV)]) (V := fun x => .tuple #[.slice x.1.1 (2 ^ K) x.1.2, .int .i64 0]) (A' := fun x => [osl x.1.1 x.1.2 (2 ^ K) 1 69 (x.2.flatMap slhV), fam x.2 (stg3 (chkB ((m : Nat) : Int) l1 l2 l3) l2 l3 K (mpD (chkB ((m : Nat) : Int) l1 l2 l3) ((m : Nat) : Int) l1 S m li nb (2 ^ K)) t)]) (C := fun x => x.2.length = (2 ^ K) ∧ ∀ k, k < (2 ^ K) → (x.2.getD k default).n = S) Try.call136 (ev4 rfl rfl rfl rfl) (.p .h (.p .h .nil)) (fun w hs => stage_c a1 a2 a3 n1 c1 n2 c2 n3 c3 l1 l2 l3 R m S ((Wn : Nat) : Int) nb K ga gc li t w hj hn1 ((oldR hr1) w hs) (by omega) hn2 ((oldR hr2) w hs) (by omega) hn3 ((oldR hr3) w hs) (by omega) hck (by first | rfl | (simp only [List.length_set]; done) | omega) (oslR (.t .h) w hs) (by omega) (by omega)) ?_
 rintro ⟨⟨a_2, c_3⟩, h_4⟩ ⟨hH5l, hH5n⟩
 replace hH5l : h_4.length = (2 ^ K) := hH5l
 replace hH5n : ∀ k, k < (2 ^ K) → (h_4.getD k default).n = S := hH5n
 have HX := hH5n
 have HL := hH5l
 have hsl := stg_len (jpM (li := li) hj hck) (t := t) (by omega)
 generalize hD : (stg3 (chkB ((m : Nat) : Int) l1 l2 l3) l2 l3 K (mpD (chkB ((m : Nat) : Int) l1 l2 l3) ((m : Nat) : Int) l1 S m li nb (2 ^ K)) t) = D
 rw [hD] at hsl
 refine s_y (v := .tuple #[.slice a_2 (2 ^ K) c_3, .int .i64 0]) (y_move rfl) rfl ?_
 refine s_y (v := .slice a_2 (2 ^ K) c_3) (y_extract (v := .slice a_2 (2 ^ K) c_3) rfl rfl) rfl ?_
 refine s_y (v := .int .i64 0) (y_extract (v := .int .i64 0) rfl rfl) rfl ?_
 refine s_y (v := .slice a_2 (2 ^ K) c_3) (y_assign rfl) rfl ?_
 refine s_y (v := .int .i64 0) (y_assign rfl) rfl ?_
 refine wpL_nil ?_
 refine thenS_n ?_
 refine wpS_seq ?_
 refine wpS_seq ?_
 refine wpS_region ?_
 refine s_y (v := .bool true) (y_call (args := #[]) (v := .bool true) Try.call137 ev0 (fun w hs => awake16_c w)) rfl ?_
 refine s_y (v := .bool false) (y_notK (b := true) (c := false) rfl rfl) rfl ?_
 refine s_y (v := .bool false) (y_move rfl) rfl ?_
 refine s_gy (y_move rfl) rfl rfl rfl rfl rfl rfl ?_
 refine s_gy (y_neq (a := 0) (b := 0) (c := false) rfl rfl (by decide)) rfl rfl rfl rfl rfl rfl ?_
 refine s_y (v := .bool false) (y_pickF (v := .bool false) rfl rfl rfl) rfl ?_
 refine s_y (v := .bool false) (y_move rfl) rfl ?_
 refine s_gy (y_move rfl) rfl rfl rfl rfl rfl rfl ?_
 refine s_gy (y_len (ty' := 0) (at_ := #[]) rfl Try.underlying80) rfl rfl rfl rfl rfl rfl ?_
 refine s_gy (y_move rfl) rfl rfl rfl rfl rfl rfl ?_
 refine s_gy (y_neq (a := (((2 ^ K) : Nat) : Int)) (b := (((2 ^ K) : Nat) : Int)) (c := decide ((2 ^ K) ≠ (2 ^ K))) rfl rfl (decide_eq_decide.2 (by omega))) rfl rfl rfl rfl rfl rfl ?_
 refine s_y (v := .bool (decide ((2 ^ K) ≠ (2 ^ K)))) (y_pickF (v := .bool (decide ((2 ^ K) ≠ (2 ^ K)))) rfl rfl rfl) rfl ?_
 refine wpL_nil ?_
 refine thenS_n ?_
 refine wpS_cond_F (t := decide ((2 ^ K) ≠ (2 ^ K))) rfl (decide_eq_false (by omega)) ?_
 refine wpS_skip ?_
 refine thenS_n ?_
 refine wpS_seq ?_
 refine wpS_region ?_
 refine s_y (v := .slice none 0 0) (y_assign rfl) rfl ?_
 refine wpL_nil ?_
 refine thenS_n ?_
 refine wpS_seq ?_
 refine wpS_seq ?_
 refine wpS_region ?_
 refine s_y (v := .int .i64 0) (y_assign rfl) rfl ?_
 refine wpL_nil ?_
 refine thenS_n ?_
 refine wpS_block ?_
 refine wpS_nil0 4 23 ?_
 refine wpS_loop (fun mez ds σ L => ∃ b : Nat, ∃ fl : List Rec, ∃ fa : Option Addr, ∃ fc : Nat, mez = 2 ^ K - b ∧ (b ≤ 2 ^ K) ∧ (fl.length = b * S) ∧ (fl = (D.take b).flatten) ∧ (b ≤ fl.length) ∧ (fl.length ≤ 1000) ∧ ds = [] ∧ σ 1 = .int .i64 (((t : Nat) : Int)) ∧ σ 2 = .pointer (some ⟨b_1, 0, none⟩) ∧ σ 7 = .int .i64 ((((rnd ((((2 ^ K) : Nat) : Int))) : Nat) : Int)) ∧ σ 8 = .slice a_2 (2 ^ K) c_3 ∧ σ 10 = .slice fa fl.length fc ∧ σ 11 = .int .i64 (((b : Nat) : Int)) ∧ Ent L [osl fa fc fl.length 4 23 (fl.flatMap recV), osl a_2 c_3 (2 ^ K) 1 69 (h_4.flatMap slhV), fam h_4 D, cel b_1 155 (pj pre [.int .i64 (((m : Nat) : Int)), .slice a1 n1 c1, .slice a2 n2 c2, .slice a3 n3 c3, .int .i64 (((R : Nat) : Int)), .int .i64 (((m : Nat) : Int)), .int .i64 (((S : Nat) : Int)), .int .i64 (((Wn : Nat) : Int)), .slice ga R gc]), osl ga gc R 2 89 (li.flatMap prV)]) (m0 := 2 ^ K - 0) ⟨0, [], none, 0, rfl, by omega, (by rw [Nat.zero_mul]; rfl), (by simp), (Nat.zero_le _), (Nat.zero_le _), rfl, rfl, rfl, rfl, rfl, rfl, rfl, .p .h (.p .h (.p .h (.p .h (.p .h .nil))))⟩ ?_
 rintro mez ds σ L ⟨b, fl, fa, fc, hm_6, hf0_6, hf1_6, hf2_6, hf3_6, hf4_6, rfl, h1_6, h2_6, h7_6, h8_6, h10_6, h11_6, hE_6⟩
 refine wpS_ent hE_6 ?_; clear hE_6
 have hbS : b * S ≤ 32 * 8 := Nat.mul_le_mul (by omega) (by omega)
 have hb1 : (b + 1) * S = b * S + S := Nat.succ_mul b S
 refine wpS_seq ?_
 refine wpS_seq ?_
 refine wpS_region ?_
 refine s_y (v := .int .i64 (((b : Nat) : Int))) (y_move h11_6) rfl ?_
 refine s_y (v := .slice a_2 (2 ^ K) c_3) (y_move h8_6) rfl ?_
 refine s_y (v := .int .i64 ((((2 ^ K) : Nat) : Int))) (y_len (ty' := 0) (at_ := #[]) rfl Try.underlying80) rfl ?_
 refine s_y (v := .bool (decide (b < (2 ^ K)))) (y_lss (a := ((b : Nat) : Int)) (b := (((2 ^ K) : Nat) : Int)) (c := decide (b < (2 ^ K))) rfl rfl (decide_eq_decide.2 (by omega))) rfl ?_
 refine wpL_nil ?_
 refine thenS_n ?_
 refine wpS_cond (t := decide (b < (2 ^ K))) rfl (fun b7 => ?_) (fun b7 => ?_)
 ·
  have p7 := of_decide_eq_true b7
  refine wpS_skip ?_
  refine thenS_n ?_
  refine wpS_seq ?_
  refine wpS_block ?_
  refine wpS_seq ?_
  refine wpS_seq ?_
  refine wpS_lex (by kernel_rfl) (by kernel_rfl) ?_
  refine x_y (v := .slice a_2 (2 ^ K) c_3) (y_move h8_6) rfl ?_
  refine x_y (v := .int .i64 (((b : Nat) : Int))) (y_move h11_6) rfl ?_
  refine x_y (v := .pointer (some ⟨aB a_2, aO a_2 + b * 1, none⟩)) (y_idx (o := b * 1) rfl rfl Try.underlying80 Try.sizeOf69 (oslR (.t .h)) ((fl_len slhV_len _).trans (by first | omega | (simp only [List.length_set, List.length_take, List.length_drop]; done) | (simp only [List.length_set, List.length_take, List.length_drop]; omega))) (by decide) (by omega) (by omega) (by omega)) rfl ?_
  refine x_y (v := .slice ((h_4.getD b default).a) ((h_4.getD b default).n) ((h_4.getD b default).c)) (y_load1 (v := .slice ((h_4.getD b default).a) ((h_4.getD b default).n) ((h_4.getD b default).c)) rfl Try.isAgg69 (rd1 (k := b * 1) (oslR (.t .h)) (fl_get0 slhV_len h_4 b (by first | omega | (simp only [List.length_set, List.length_take, List.length_drop]; done) | (simp only [List.length_set, List.length_take, List.length_drop]; omega)) rfl))) rfl ?_
  have hblk := getD_len hsl (show b < 2 ^ K by omega)
  have hHb := HX b (by omega)
  refine x_y (v := .int .i64 ((((h_4.getD b default).n : Nat) : Int))) (y_len (ty' := 0) (at_ := #[]) rfl Try.underlying69) rfl ?_
  refine x_y (v := .pointer (some ⟨b_1, 37, none⟩)) (y_fieldAddr (o' := 37) h2_6 Try.underlying155 rfl Try.sizeOf53 (by decide) rfl) rfl ?_
  refine x_y (v := .pointer (some ⟨b_1, 39, none⟩)) (y_fieldAddr (o' := 39) rfl Try.underlying53 rfl Try.sizeOf3 (by decide) rfl) rfl ?_
  refine x_y (v := .int .i64 (((S : Nat) : Int))) (y_load1 (v := .int .i64 (((S : Nat) : Int))) rfl Try.isAgg3 (own1 (.t (.t (.t .h))) (pre_get 6 hpre rfl))) rfl ?_
  refine x_y (v := .bool (decide (((h_4.getD b default).n) ≠ S))) (y_neq (a := (((h_4.getD b default).n : Nat) : Int)) (b := ((S : Nat) : Int)) (c := decide (((h_4.getD b default).n) ≠ S)) rfl rfl (decide_eq_decide.2 (by omega))) rfl ?_
  refine x_nil ?_
  refine thenS_n ?_
  refine wpS_cond_F (t := decide (((h_4.getD b default).n) ≠ S)) rfl (decide_eq_false (by omega)) ?_
  refine wpS_skip ?_
  refine thenS_n ?_
  refine wpS_region ?_
  refine s_y (v := .slice fa fl.length fc) (y_move h10_6) rfl ?_
  refine s_y (v := .slice a_2 (2 ^ K) c_3) (y_move h8_6) rfl ?_
  refine s_y (v := .int .i64 (((b : Nat) : Int))) (y_move h11_6) rfl ?_
  refine s_y (v := .pointer (some ⟨aB a_2, aO a_2 + b * 1, none⟩)) (y_idx (o := b * 1) rfl rfl Try.underlying80 Try.sizeOf69 (oslR (.t .h)) ((fl_len slhV_len _).trans (by first | omega | (simp only [List.length_set, List.length_take, List.length_drop]; done) | (simp only [List.length_set, List.length_take, List.length_drop]; omega))) (by decide) (by omega) (by omega) (by omega)) rfl ?_
  refine s_y (v := .slice ((h_4.getD b default).a) ((h_4.getD b default).n) ((h_4.getD b default).c)) (y_load1 (v := .slice ((h_4.getD b default).a) ((h_4.getD b default).n) ((h_4.getD b default).c)) rfl Try.isAgg69 (rd1 (k := b * 1) (oslR (.t .h)) (fl_get0 slhV_len h_4 b (by first | omega | (simp only [List.length_set, List.length_take, List.length_drop]; done) | (simp only [List.length_set, List.length_take, List.length_drop]; omega)) rfl))) rfl ?_
  have hblk := getD_len hsl (show b < 2 ^ K by omega)
  have hHb := HX b (by omega)
  refine s_e rfl ?_
  refine e_appendL (enc := recV) (xs := (fl : List Rec)) (ns := ((D.getD b []) : List Rec)) (zs := (fl ++ (D.getD b []))) (bytes := 32) recV_len recV_one Try.underlying69 (i := Try.t23) rfl rfl rfl rfl rfl (by decide) rfl rfl (by first | rfl | omega) (hblk.trans (HX b (by omega)).symm).symm .h (fam_rd (.t (.t .h)) (by omega)) (by first | rfl | simp) (by rw [List.length_append]; omega) (by rw [List.length_append]; omega) ?_
  intro a_8 c_9
  refine s_y (v := .slice a_8 ((fl ++ (D.getD b [])).length) c_9) (y_assign rfl) rfl ?_
  refine wpL_nil ?_
  refine blockS_n ?_
  refine thenS_n ?_
  refine wpS_region ?_
  refine s_y (v := .int .i64 (((b : Nat) : Int))) (y_move h11_6) rfl ?_
  refine s_y (v := .int .i64 ((((b + 1) : Nat) : Int))) (y_add (a := ((b : Nat) : Int)) (b := 1) (c := (((b + 1) : Nat) : Int)) rfl rfl (wI (by omega) (by omega) (by omega))) rfl ?_
  refine s_y (v := .int .i64 ((((b + 1) : Nat) : Int))) (y_assign rfl) rfl ?_
  refine wpL_nil ?_
  refine thenS_n ?_
  exact ⟨_, by omega, ⟨(b + 1), (fl ++ (D.getD b [])), a_8, c_9, rfl, by omega, (by rw [List.length_append]; omega), (flat_next (by assumption) (by omega)), (by rw [List.length_append]; omega), (by rw [List.length_append]; omega), rfl, h1_6, h2_6, h7_6, h8_6, rfl, rfl, .p .h (.p .h (.p .h (.p .h (.p .h .nil))))⟩⟩
 ·
  have p7 := of_decide_eq_false b7
  refine wpS_exit ?_
  refine thenS_x ?_
  refine thenS_x ?_
  refine blockS_h ?_
  refine thenS_n ?_
  refine wpS_seq ?_
  refine wpS_seq ?_
  refine wpS_region ?_
  refine s_y (v := .int .i64 (((t : Nat) : Int))) (y_move h1_6) rfl ?_
  refine s_y (v := .int .i64 ((((rnd ((((2 ^ K) : Nat) : Int))) : Nat) : Int))) (y_move h7_6) rfl ?_
  refine s_y (v := .int .i64 ((((1 + (rnd ((((2 ^ K) : Nat) : Int)))) : Nat) : Int))) (y_add (a := 1) (b := (((rnd ((((2 ^ K) : Nat) : Int))) : Nat) : Int)) (c := (((1 + (rnd ((((2 ^ K) : Nat) : Int)))) : Nat) : Int)) rfl rfl (wI (by omega) (by omega) (by omega))) rfl ?_
  refine s_y (v := .bool (decide (t = (1 + (rnd ((((2 ^ K) : Nat) : Int))))))) (y_eql (a := ((t : Nat) : Int)) (b := (((1 + (rnd ((((2 ^ K) : Nat) : Int)))) : Nat) : Int)) (c := decide (t = (1 + (rnd ((((2 ^ K) : Nat) : Int)))))) rfl rfl (decide_eq_decide.2 (by omega))) rfl ?_
  refine s_y (v := .bool (decide (t = (1 + (rnd ((((2 ^ K) : Nat) : Int))))))) (y_move rfl) rfl ?_
  rcases Bool.eq_false_or_eq_true (decide (t = (1 + (rnd ((((2 ^ K) : Nat) : Int)))))) with b10 | b10
  ·
   have p10 := of_decide_eq_true b10
   refine s_gy (y_move h10_6) rfl rfl rfl rfl (b' := decide (t = (1 + (rnd ((((2 ^ K) : Nat) : Int)))))) rfl b10 ?_
   refine s_gy (y_call (args := #[.slice fa fl.length fc, .bool true]) (v := .bool ((srtd true fl))) Try.call80 (ev2 rfl rfl) (fun w hs => refsorted_c fa fl.length fc fl true w rfl (oslR .h w hs) (by omega))) rfl rfl rfl rfl (b' := decide (t = (1 + (rnd ((((2 ^ K) : Nat) : Int)))))) rfl b10 ?_
   refine s_gy (y_not (b := (srtd true fl)) rfl) rfl rfl rfl rfl (b' := decide (t = (1 + (rnd ((((2 ^ K) : Nat) : Int)))))) rfl b10 ?_
   refine s_gy (y_move rfl) rfl rfl rfl rfl (b' := decide (t = (1 + (rnd ((((2 ^ K) : Nat) : Int)))))) rfl b10 ?_
   refine s_gy (y_move h10_6) rfl rfl rfl rfl (b' := !(srtd true fl)) rfl (congrArg not (shape_1 (t := t) (b := b) (li := li) (fl := fl) hj hck (by omega) (by omega) (by rw [hD]; assumption) (by omega)).1) ?_
   refine s_gy (y_move h10_6) rfl rfl rfl rfl (b' := !(srtd true fl)) rfl (congrArg not (shape_1 (t := t) (b := b) (li := li) (fl := fl) hj hck (by omega) (by omega) (by rw [hD]; assumption) (by omega)).1) ?_
   refine s_gy (y_len (ty' := 0) (at_ := #[]) rfl Try.underlying69) rfl rfl rfl rfl (b' := !(srtd true fl)) rfl (congrArg not (shape_1 (t := t) (b := b) (li := li) (fl := fl) hj hck (by omega) (by omega) (by rw [hD]; assumption) (by omega)).1) ?_
   refine s_gy (y_sub (a := ((fl.length : Nat) : Int)) (b := 1) (c := (((fl.length - 1) : Nat) : Int)) rfl rfl (wI (by omega) (by omega) (by omega))) rfl rfl rfl rfl (b' := !(srtd true fl)) rfl (congrArg not (shape_1 (t := t) (b := b) (li := li) (fl := fl) hj hck (by omega) (by omega) (by rw [hD]; assumption) (by omega)).1) ?_
   refine s_gy (y_idx (o := (fl.length - 1) * 4) rfl rfl Try.underlying69 Try.sizeOf23 (oslR .h) (fl_len recV_len _) (by decide) (by omega) (by omega) (by omega)) rfl rfl rfl rfl (b' := !(srtd true fl)) rfl (congrArg not (shape_1 (t := t) (b := b) (li := li) (fl := fl) hj hck (by omega) (by omega) (by rw [hD]; assumption) (by omega)).1) ?_
   refine s_gy (y_fieldAddr (o' := aO fa + (fl.length - 1) * 4) rfl Try.underlying23 rfl Try.sizeOf4 (by decide) rfl) rfl rfl rfl rfl (b' := !(srtd true fl)) rfl (congrArg not (shape_1 (t := t) (b := b) (li := li) (fl := fl) hj hck (by omega) (by omega) (by rw [hD]; assumption) (by omega)).1) ?_
   refine s_gy (y_load1 (v := .bool ((fl.getD (fl.length - 1) default).dead)) rfl Try.isAgg4 (rd1 (k := (fl.length - 1) * 4) (oslR .h) (fl_get0 recV_len fl (fl.length - 1) (by first | omega | (simp only [List.length_set, List.length_take, List.length_drop]; done) | (simp only [List.length_set, List.length_take, List.length_drop]; omega)) rfl))) rfl rfl rfl rfl (b' := !(srtd true fl)) rfl (congrArg not (shape_1 (t := t) (b := b) (li := li) (fl := fl) hj hck (by omega) (by omega) (by rw [hD]; assumption) (by omega)).1) ?_
   refine s_gy (y_not (b := (fl.getD (fl.length - 1) default).dead) rfl) rfl rfl rfl rfl (b' := !(srtd true fl)) rfl (congrArg not (shape_1 (t := t) (b := b) (li := li) (fl := fl) hj hck (by omega) (by omega) (by rw [hD]; assumption) (by omega)).1) ?_
   refine s_gy (y_pickF (b := !(srtd true fl)) (v := .bool (!((fl.getD (fl.length - 1) default).dead))) rfl (congrArg not (shape_1 (t := t) (b := b) (li := li) (fl := fl) hj hck (by omega) (by omega) (by rw [hD]; assumption) (by omega)).1) rfl) rfl rfl rfl rfl (b' := decide (t = (1 + (rnd ((((2 ^ K) : Nat) : Int)))))) rfl b10 ?_
   refine s_y (v := .bool (!((fl.getD (fl.length - 1) default).dead))) (y_pickT (b := decide (t = (1 + (rnd ((((2 ^ K) : Nat) : Int)))))) (v := .bool (!((fl.getD (fl.length - 1) default).dead))) rfl b10 rfl) rfl ?_
   refine wpL_nil ?_
   refine thenS_n ?_
   refine wpS_cond_F (t := !((fl.getD (fl.length - 1) default).dead)) rfl (congrArg not (shape_1 (t := t) (b := b) (li := li) (fl := fl) hj hck (by omega) (by omega) (by rw [hD]; assumption) (by omega)).2) ?_
   refine wpS_skip ?_
   refine thenS_n ?_
   refine wpS_seq ?_
   refine wpS_region ?_
   refine s_y (v := .int .i64 (((t : Nat) : Int))) (y_move h1_6) rfl ?_
   refine s_y (v := .int .i64 ((((rnd ((((2 ^ K) : Nat) : Int))) : Nat) : Int))) (y_move h7_6) rfl ?_
   refine s_y (v := .int .i64 ((((2 * (rnd ((((2 ^ K) : Nat) : Int)))) : Nat) : Int))) (y_mul (a := 2) (b := (((rnd ((((2 ^ K) : Nat) : Int))) : Nat) : Int)) (c := (((2 * (rnd ((((2 ^ K) : Nat) : Int)))) : Nat) : Int)) rfl rfl (wI (by omega) (by omega) (by omega))) rfl ?_
   refine s_y (v := .int .i64 ((((2 + (2 * (rnd ((((2 ^ K) : Nat) : Int))))) : Nat) : Int))) (y_add (a := 2) (b := (((2 * (rnd ((((2 ^ K) : Nat) : Int)))) : Nat) : Int)) (c := (((2 + (2 * (rnd ((((2 ^ K) : Nat) : Int))))) : Nat) : Int)) rfl rfl (wI (by omega) (by omega) (by omega))) rfl ?_
   refine s_y (v := .bool (decide (t ≠ (2 + (2 * (rnd ((((2 ^ K) : Nat) : Int)))))))) (y_neq (a := ((t : Nat) : Int)) (b := (((2 + (2 * (rnd ((((2 ^ K) : Nat) : Int))))) : Nat) : Int)) (c := decide (t ≠ (2 + (2 * (rnd ((((2 ^ K) : Nat) : Int))))))) rfl rfl (decide_eq_decide.2 (by omega))) rfl ?_
   refine s_y (v := .bool (decide (t ≠ (2 + (2 * (rnd ((((2 ^ K) : Nat) : Int)))))))) (y_move rfl) rfl ?_
   rcases Bool.eq_false_or_eq_true (decide (t ≠ (2 + (2 * (rnd ((((2 ^ K) : Nat) : Int))))))) with b11 | b11
   ·
    have p11 := of_decide_eq_true b11
    refine s_no rfl rfl rfl rfl (b' := decide (t ≠ (2 + (2 * (rnd ((((2 ^ K) : Nat) : Int))))))) rfl b11 ?_
    refine s_no rfl rfl rfl rfl (b' := decide (t ≠ (2 + (2 * (rnd ((((2 ^ K) : Nat) : Int))))))) rfl b11 ?_
    refine s_y (v := .bool true) (y_pickT (b := decide (t ≠ (2 + (2 * (rnd ((((2 ^ K) : Nat) : Int))))))) (v := .bool true) rfl b11 rfl) rfl ?_
    refine s_y (v := .bool true) (y_assign rfl) rfl ?_
    refine wpL_nil ?_
    refine thenS_n ?_
    refine wpS_ret ?_
    refine fin1 (v := .bool true) (.inr rfl) (.nil) Try.results37 rfl ?_
    exact fun w' hs => ⟨rfl, hs⟩
   ·
    have p11 := of_decide_eq_false b11
    refine s_gy (y_move h10_6) rfl rfl rfl rfl (b' := decide (t ≠ (2 + (2 * (rnd ((((2 ^ K) : Nat) : Int))))))) rfl b11 ?_
    refine s_gy (y_call (args := #[.slice fa fl.length fc, .bool false]) (v := .bool ((srtd false fl))) Try.call80 (ev2 rfl rfl) (fun w hs => refsorted_c fa fl.length fc fl false w rfl (oslR .h w hs) (by omega))) rfl rfl rfl rfl (b' := decide (t ≠ (2 + (2 * (rnd ((((2 ^ K) : Nat) : Int))))))) rfl b11 ?_
    refine s_y (v := .bool ((srtd false fl))) (y_pickF (b := decide (t ≠ (2 + (2 * (rnd ((((2 ^ K) : Nat) : Int))))))) (v := .bool ((srtd false fl))) rfl b11 rfl) rfl ?_
    refine s_y (v := .bool ((srtd false fl))) (y_assign rfl) rfl ?_
    refine wpL_nil ?_
    refine thenS_n ?_
    refine wpS_ret ?_
    refine fin1 (v := .bool ((srtd false fl))) (.inr rfl) (.nil) Try.results37 rfl ?_
    exact fun w' hs => ⟨congrArg (fun b => Ending.returned (Value.bool b)) (show ((srtd false fl)) = true from (shape_2 (t := t) (b := b) (li := li) (fl := fl) hj hck (by omega) (by rw [hD]; assumption) (by omega))), hs⟩
  ·
   have p10 := of_decide_eq_false b10
   refine s_no rfl rfl rfl rfl (b' := decide (t = (1 + (rnd ((((2 ^ K) : Nat) : Int)))))) rfl b10 ?_
   refine s_no rfl rfl rfl rfl (b' := decide (t = (1 + (rnd ((((2 ^ K) : Nat) : Int)))))) rfl b10 ?_
   refine s_no rfl rfl rfl rfl (b' := decide (t = (1 + (rnd ((((2 ^ K) : Nat) : Int)))))) rfl b10 ?_
   refine s_no rfl rfl rfl rfl (b' := decide (t = (1 + (rnd ((((2 ^ K) : Nat) : Int)))))) rfl b10 ?_
   refine s_nu rfl rfl rfl rfl rfl ?_
   refine s_nu rfl rfl rfl rfl rfl ?_
   refine s_nu rfl rfl rfl rfl rfl ?_
   refine s_nu rfl rfl rfl rfl rfl ?_
   refine s_nu rfl rfl rfl rfl rfl ?_
   refine s_nu rfl rfl rfl rfl rfl ?_
   refine s_nu rfl rfl rfl rfl rfl ?_
   refine s_nu rfl rfl rfl rfl rfl ?_
   refine s_no rfl rfl rfl rfl (b' := decide (t = (1 + (rnd ((((2 ^ K) : Nat) : Int)))))) rfl b10 ?_
   refine s_y (v := .bool false) (y_pickF (b := decide (t = (1 + (rnd ((((2 ^ K) : Nat) : Int)))))) (v := .bool false) rfl b10 rfl) rfl ?_
   refine wpL_nil ?_
   refine thenS_n ?_
   refine wpS_cond_f rfl ?_
   refine wpS_skip ?_
   refine thenS_n ?_
   refine wpS_seq ?_
   refine wpS_region ?_
   refine s_y (v := .int .i64 (((t : Nat) : Int))) (y_move h1_6) rfl ?_
   refine s_y (v := .int .i64 ((((rnd ((((2 ^ K) : Nat) : Int))) : Nat) : Int))) (y_move h7_6) rfl ?_
   refine s_y (v := .int .i64 ((((2 * (rnd ((((2 ^ K) : Nat) : Int)))) : Nat) : Int))) (y_mul (a := 2) (b := (((rnd ((((2 ^ K) : Nat) : Int))) : Nat) : Int)) (c := (((2 * (rnd ((((2 ^ K) : Nat) : Int)))) : Nat) : Int)) rfl rfl (wI (by omega) (by omega) (by omega))) rfl ?_
   refine s_y (v := .int .i64 ((((2 + (2 * (rnd ((((2 ^ K) : Nat) : Int))))) : Nat) : Int))) (y_add (a := 2) (b := (((2 * (rnd ((((2 ^ K) : Nat) : Int)))) : Nat) : Int)) (c := (((2 + (2 * (rnd ((((2 ^ K) : Nat) : Int))))) : Nat) : Int)) rfl rfl (wI (by omega) (by omega) (by omega))) rfl ?_
   refine s_y (v := .bool (decide (t ≠ (2 + (2 * (rnd ((((2 ^ K) : Nat) : Int)))))))) (y_neq (a := ((t : Nat) : Int)) (b := (((2 + (2 * (rnd ((((2 ^ K) : Nat) : Int))))) : Nat) : Int)) (c := decide (t ≠ (2 + (2 * (rnd ((((2 ^ K) : Nat) : Int))))))) rfl rfl (decide_eq_decide.2 (by omega))) rfl ?_
   refine s_y (v := .bool (decide (t ≠ (2 + (2 * (rnd ((((2 ^ K) : Nat) : Int)))))))) (y_move rfl) rfl ?_
   rcases Bool.eq_false_or_eq_true (decide (t ≠ (2 + (2 * (rnd ((((2 ^ K) : Nat) : Int))))))) with b12 | b12
   ·
    have p12 := of_decide_eq_true b12
    refine s_no rfl rfl rfl rfl (b' := decide (t ≠ (2 + (2 * (rnd ((((2 ^ K) : Nat) : Int))))))) rfl b12 ?_
    refine s_no rfl rfl rfl rfl (b' := decide (t ≠ (2 + (2 * (rnd ((((2 ^ K) : Nat) : Int))))))) rfl b12 ?_
    refine s_y (v := .bool true) (y_pickT (b := decide (t ≠ (2 + (2 * (rnd ((((2 ^ K) : Nat) : Int))))))) (v := .bool true) rfl b12 rfl) rfl ?_
    refine s_y (v := .bool true) (y_assign rfl) rfl ?_
    refine wpL_nil ?_
    refine thenS_n ?_
    refine wpS_ret ?_
    refine fin1 (v := .bool true) (.inr rfl) (.nil) Try.results37 rfl ?_
    exact fun w' hs => ⟨rfl, hs⟩
   ·
    have p12 := of_decide_eq_false b12
    refine s_gy (y_move h10_6) rfl rfl rfl rfl (b' := decide (t ≠ (2 + (2 * (rnd ((((2 ^ K) : Nat) : Int))))))) rfl b12 ?_
    refine s_gy (y_call (args := #[.slice fa fl.length fc, .bool false]) (v := .bool ((srtd false fl))) Try.call80 (ev2 rfl rfl) (fun w hs => refsorted_c fa fl.length fc fl false w rfl (oslR .h w hs) (by omega))) rfl rfl rfl rfl (b' := decide (t ≠ (2 + (2 * (rnd ((((2 ^ K) : Nat) : Int))))))) rfl b12 ?_
    refine s_y (v := .bool ((srtd false fl))) (y_pickF (b := decide (t ≠ (2 + (2 * (rnd ((((2 ^ K) : Nat) : Int))))))) (v := .bool ((srtd false fl))) rfl b12 rfl) rfl ?_
    refine s_y (v := .bool ((srtd false fl))) (y_assign rfl) rfl ?_
    refine wpL_nil ?_
    refine thenS_n ?_
    refine wpS_ret ?_
    refine fin1 (v := .bool ((srtd false fl))) (.inr rfl) (.nil) Try.results37 rfl ?_
    exact fun w' hs => ⟨congrArg (fun b => Ending.returned (Value.bool b)) (show ((srtd false fl)) = true from (shape_2 (t := t) (b := b) (li := li) (fl := fl) hj hck (by omega) (by rw [hD]; assumption) (by omega))), hs⟩
theorem pshape_no (pre : List Value) (p0 p1 p2 p3 : Int) (ia : Option Addr) (inn ic : Nat) (lj : List Pr) (m : Nat) (k0 : Int) (a1 a2 a3 : Option Addr) (n1 c1 n2 c2 n3 c3 : Nat) (l1 l2 l3 : List Opc) (q : Int) (q1 : -9223372036854775808 ≤ q) (q2 : q < 9223372036854775808) (w : World) (hpre : pre.length = 33) (hpo : pre.all Value.oneCell' = true) (hmm : 1 + u64of p1 % 2 = m) (hn1 : l1.length = n1) (hr1 : Rds w a1 (l1.flatMap opcV)) (hb1 : n1 ≤ 9223372036854775807) (hn2 : l2.length = n2) (hr2 : Rds w a2 (l2.flatMap opcV)) (hb2 : n2 ≤ 9223372036854775807) (hn3 : l3.length = n3) (hr3 : Rds w a3 (l3.flatMap opcV)) (hb3 : n3 ≤ 9223372036854775807) (hni : lj.length = inn) (hri : Rds w ia (lj.flatMap prV)) (hbi : inn ≤ 9223372036854775807) (hci : inn ≤ ic)  (hck0 : (chkB ((m : Nat) : Int) l1 l2 l3) = false) : Pure Try.prog 37 #[.agg (pj pre [.int .i64 k0, .slice a1 n1 c1, .slice a2 n2 c2, .slice a3 n3 c3, .int .i64 p0, .int .i64 p1, .int .i64 p2, .int .i64 p3, .slice ia inn ic]).toArray, .int .i64 q] w (.bool true) := by
 refine calls_S (n := 103) (σ0 := (upd (upd fr0 0 (.agg (pj pre [.int .i64 k0, .slice a1 n1 c1, .slice a2 n2 c2, .slice a3 n3 c3, .int .i64 p0, .int .i64 p1, .int .i64 p2, .int .i64 p3, .slice ia inn ic]).toArray)) 1 (.int .i64 q))) (D := []) (A := []) Try.func37 rfl Try.ntmps37 rfl (a2_fr _ _) (SH.start w) ?_
 refine wpS_seq ?_
 refine wpS_region ?_
 refine s_e rfl ?_
 refine e_box (v := .agg (pj pre [.int .i64 k0, .slice a1 n1 c1, .slice a2 n2 c2, .slice a3 n3 c3, .int .i64 p0, .int .i64 p1, .int .i64 p2, .int .i64 p3, .slice ia inn ic]).toArray) (l := (pj pre [.int .i64 k0, .slice a1 n1 c1, .slice a2 n2 c2, .slice a3 n3 c3, .int .i64 p0, .int .i64 p1, .int .i64 p2, .int .i64 p3, .slice ia inn ic])) rfl rfl ?_
 intro b_1
 refine s_y (v := .bool false) (y_assign rfl) rfl ?_
 refine wpL_nil ?_
 refine thenS_n ?_
 refine wpS_seq ?_
 refine wpS_region ?_
 refine s_y (v := .agg (pj pre [.int .i64 k0, .slice a1 n1 c1, .slice a2 n2 c2, .slice a3 n3 c3, .int .i64 p0, .int .i64 p1, .int .i64 p2, .int .i64 p3, .slice ia inn ic]).toArray) (y_loadW (vs := (pj pre [.int .i64 k0, .slice a1 n1 c1, .slice a2 n2 c2, .slice a3 n3 c3, .int .i64 p0, .int .i64 p1, .int .i64 p2, .int .i64 p3, .slice ia inn ic])) rfl Try.isAgg155 Try.sizeOf155 (by first | rfl | exact pre_len hpre rfl) (fun w hs => ownN .h (by simp only [List.drop_zero]; exact List.take_length) w hs)) rfl ?_
 refine s_e rfl ?_
 refine e_call (f := 134) (args := #[.agg (pj pre [.int .i64 k0, .slice a1 n1 c1, .slice a2 n2 c2, .slice a3 n3 c3, .int .i64 p0, .int .i64 p1, .int .i64 p2, .int .i64 p3, .slice ia inn ic]).toArray]) (X := ((Nat × Nat × Nat) × (Option Addr × Nat) × List Pr) × ((Option Addr × Nat) × Nat)) (A := []) (M := [cel b_1 155 (pj pre [.int .i64 k0, .slice a1 n1 c1, .slice a2 n2 c2, .slice a3 n3 c3, .int .i64 p0, .int .i64 p1, .int .i64 p2, .int .i64 p3, .slice ia inn ic])]) (V := fun x => .agg (pj pre [.int .i64 ((m : Nat) : Int), .slice x.2.1.1 (m + 1) x.2.1.2, .slice (some ⟨x.2.2, 0, none⟩) 1 1, .slice none 0 0, .int .i64 ((x.1.1.1 : Nat) : Int), .int .i64 ((m : Nat) : Int), .int .i64 ((x.1.1.2.1 : Nat) : Int), .int .i64 ((x.1.1.2.2 : Nat) : Int), .slice x.1.2.1.1 x.1.1.1 x.1.2.1.2]).toArray) (A' := fun x => [osl x.1.2.1.1 x.1.2.1.2 x.1.1.1 2 89 (x.1.2.2.flatMap prV), osl x.2.1.1 x.2.1.2 (m + 1) 6 86 ((smapL m).flatMap opcV), cel x.2.2 86 (sfoldL.flatMap opcV)]) (C := fun x => ok ⟨((x.1.1.1 : Nat) : Int), ((m : Nat) : Int), ((x.1.1.2.1 : Nat) : Int), ((x.1.1.2.2 : Nat) : Int)⟩ = true ∧ x.1.1.1 ≤ 6 ∧ x.1.2.2.length = x.1.1.1) Try.call134 (ev1 rfl) (.p .h .nil) (fun w hs => jright_no pre p0 p1 p2 p3 ia inn ic lj m k0 a1 a2 a3 n1 c1 n2 c2 n3 c3 l1 l2 l3 w hpre hpo hmm hn1 (oldR hr1 w hs) hb1 hn2 (oldR hr2 w hs) hb2 hn3 (oldR hr3 w hs) hb3 hni (oldR hri w hs) hbi hci hck0) ?_
 rintro ⟨⟨⟨R, S, Wn⟩, ⟨ga, gc⟩, li⟩, ⟨⟨sa, sc⟩, sb⟩⟩ ⟨hok, hR6, hll⟩
 replace hok : ok ⟨((R : Nat) : Int), ((m : Nat) : Int), ((S : Nat) : Int), ((Wn : Nat) : Int)⟩ = true := hok
 replace hR6 : R ≤ 6 := hR6
 replace hll : li.length = R := hll
 obtain ⟨nb, K, hj⟩ := jp_of hok
 obtain ⟨hjok, hjb, hjs, hK5, ⟨hR1, hR2⟩, ⟨hm1, hm2⟩, ⟨hS1, hS2⟩, hnm, hrs, hrs2, ⟨hnb1, hnb2⟩⟩ := hj
 have hj : JP R m S ((Wn : Nat) : Int) nb K := ⟨hjok, hjb, hjs, hK5, ⟨hR1, hR2⟩, ⟨hm1, hm2⟩, ⟨hS1, hS2⟩, hnm, hrs, hrs2, ⟨hnb1, hnb2⟩⟩
 have hp2 : 2 ^ K ≤ 32 := Nat.pow_le_pow_right (n := 2) (by decide) hK5
 have hp1 := Nat.two_pow_pos K
 have hck := sums_ok (m := m) (by omega) (by omega)
 have hsmL := smap_len m
 obtain ⟨t, hte⟩ : ∃ t, 1 + u64of q % (2 + 2 * (rnd ((2 ^ K : Nat) : Int))) = t := ⟨_, rfl⟩
 have htl : u64of q % (2 + 2 * (rnd ((2 ^ K : Nat) : Int))) < 2 + 2 * (rnd ((2 ^ K : Nat) : Int)) := Nat.mod_lt _ (by omega)
 have hrt : (rnd ((2 ^ K : Nat) : Int)) ≤ 21 := rnd21 (by omega)
 refine s_e0 ?_
 refine e_storeW (vs := (pj pre [.int .i64 (((m : Nat) : Int)), .slice sa (m + 1) sc, .slice (some ⟨sb, 0, none⟩) 1 1, .slice none 0 0, .int .i64 (((R : Nat) : Int)), .int .i64 (((m : Nat) : Int)), .int .i64 (((S : Nat) : Int)), .int .i64 (((Wn : Nat) : Int)), .slice ga R gc])) rfl rfl rfl (pre_one hpo rfl) Try.sizeOf155 (by first | rfl | exact pre_len hpre rfl) (.t (.t (.t .h))) (by first | rfl | exact pre_len hpre rfl) ?_
 refine wpL_nil ?_
 refine thenS_n ?_
 refine wpS_seq ?_
 refine wpS_region ?_
 refine s_y (v := .pointer (some ⟨b_1, 37, none⟩)) (y_fieldAddr (o' := 37) rfl Try.underlying155 rfl Try.sizeOf53 (by decide) rfl) rfl ?_
 refine s_y (v := .agg #[.int .i64 (((R : Nat) : Int)), .int .i64 (((m : Nat) : Int)), .int .i64 (((S : Nat) : Int)), .int .i64 (((Wn : Nat) : Int))]) (y_loadN (vs := [.int .i64 (((R : Nat) : Int)), .int .i64 (((m : Nat) : Int)), .int .i64 (((S : Nat) : Int)), .int .i64 (((Wn : Nat) : Int))]) rfl Try.isAgg53 Try.sizeOf53 (ownN .h (pre_getN 4 hpre rfl))) rfl ?_
 refine s_y (v := .tuple #[.int .i64 (((nb : Nat) : Int)), .int .i64 ((((2 ^ K) : Nat) : Int))]) (y_call (args := #[.agg #[.int .i64 (((R : Nat) : Int)), .int .i64 (((m : Nat) : Int)), .int .i64 (((S : Nat) : Int)), .int .i64 (((Wn : Nat) : Int))]]) (v := .tuple #[.int .i64 (((nb : Nat) : Int)), .int .i64 ((((2 ^ K) : Nat) : Int))]) Try.call135 (ev1 rfl) (fun w hs => blocksJ_c hj w)) rfl ?_
 refine s_y (v := .tuple #[.int .i64 (((nb : Nat) : Int)), .int .i64 ((((2 ^ K) : Nat) : Int))]) (y_move rfl) rfl ?_
 refine s_y (v := .int .i64 (((nb : Nat) : Int))) (y_extract (v := .int .i64 (((nb : Nat) : Int))) rfl rfl) rfl ?_
 refine s_y (v := .int .i64 ((((2 ^ K) : Nat) : Int))) (y_extract (v := .int .i64 ((((2 ^ K) : Nat) : Int))) rfl rfl) rfl ?_
 refine s_y (v := .int .i64 (((nb : Nat) : Int))) (y_assign rfl) rfl ?_
 refine s_y (v := .int .i64 ((((2 ^ K) : Nat) : Int))) (y_assign rfl) rfl ?_
 refine wpL_nil ?_
 refine thenS_n ?_
 refine wpS_seq ?_
 refine wpS_region ?_
 refine s_y (v := .int .i64 ((((2 ^ K) : Nat) : Int))) (y_move rfl) rfl ?_
 refine s_y (v := .int .i64 ((((rnd ((((2 ^ K) : Nat) : Int))) : Nat) : Int))) (y_call (args := #[.int .i64 ((((2 ^ K) : Nat) : Int))]) (v := .int .i64 ((((rnd ((((2 ^ K) : Nat) : Int))) : Nat) : Int))) Try.call56 (ev1 rfl) (fun w hs => rrnd_c ((((2 ^ K) : Nat) : Int)) (by omega) (by omega) w)) rfl ?_
 refine s_y (v := .int .i64 ((((rnd ((((2 ^ K) : Nat) : Int))) : Nat) : Int))) (y_assign rfl) rfl ?_
 refine wpL_nil ?_
 refine thenS_n ?_
 refine wpS_seq ?_
 refine wpS_region ?_
 refine s_y (v := .int .i64 q) (y_move rfl) rfl ?_
 refine s_y (v := .int .u64 ((((u64of q) : Nat) : Int))) (y_convI (a := q) (c := (((u64of q) : Nat) : Int)) rfl Try.underlying3 Try.underlying46 (u64of_wrap _)) rfl ?_
 refine s_y (v := .int .i64 ((((rnd ((((2 ^ K) : Nat) : Int))) : Nat) : Int))) (y_move rfl) rfl ?_
 refine s_y (v := .int .i64 ((((2 * (rnd ((((2 ^ K) : Nat) : Int)))) : Nat) : Int))) (y_mul (a := 2) (b := (((rnd ((((2 ^ K) : Nat) : Int))) : Nat) : Int)) (c := (((2 * (rnd ((((2 ^ K) : Nat) : Int)))) : Nat) : Int)) rfl rfl (wI (by omega) (by omega) (by omega))) rfl ?_
 refine s_y (v := .int .i64 ((((2 + (2 * (rnd ((((2 ^ K) : Nat) : Int))))) : Nat) : Int))) (y_add (a := 2) (b := (((2 * (rnd ((((2 ^ K) : Nat) : Int)))) : Nat) : Int)) (c := (((2 + (2 * (rnd ((((2 ^ K) : Nat) : Int))))) : Nat) : Int)) rfl rfl (wI (by omega) (by omega) (by omega))) rfl ?_
 refine s_y (v := .int .u64 ((((2 + (2 * (rnd ((((2 ^ K) : Nat) : Int))))) : Nat) : Int))) (y_convI (a := (((2 + (2 * (rnd ((((2 ^ K) : Nat) : Int))))) : Nat) : Int)) (c := (((2 + (2 * (rnd ((((2 ^ K) : Nat) : Int))))) : Nat) : Int)) rfl Try.underlying3 Try.underlying46 (wU rfl (by omega) (by omega))) rfl ?_
 refine s_y (v := .int .u64 (((((u64of q) % (2 + (2 * (rnd ((((2 ^ K) : Nat) : Int)))))) : Nat) : Int))) (y_rem (a := (((u64of q) : Nat) : Int)) (b := (((2 + (2 * (rnd ((((2 ^ K) : Nat) : Int))))) : Nat) : Int)) (c := ((((u64of q) % (2 + (2 * (rnd ((((2 ^ K) : Nat) : Int)))))) : Nat) : Int)) rfl rfl (by omega) (n_rem _ (2 + (2 * (rnd ((((2 ^ K) : Nat) : Int))))) (by omega))) rfl ?_
 refine s_y (v := .int .i64 (((((u64of q) % (2 + (2 * (rnd ((((2 ^ K) : Nat) : Int)))))) : Nat) : Int))) (y_convI (a := ((((u64of q) % (2 + (2 * (rnd ((((2 ^ K) : Nat) : Int)))))) : Nat) : Int)) (c := ((((u64of q) % (2 + (2 * (rnd ((((2 ^ K) : Nat) : Int)))))) : Nat) : Int)) rfl Try.underlying46 Try.underlying3 (wI rfl (by omega) (by omega))) rfl ?_
 refine s_y (v := .int .i64 (((t : Nat) : Int))) (y_add (a := 1) (b := ((((u64of q) % (2 + (2 * (rnd ((((2 ^ K) : Nat) : Int)))))) : Nat) : Int)) (c := ((t : Nat) : Int)) rfl rfl (wI (by omega) (by omega) (by omega))) rfl ?_
 refine s_y (v := .int .i64 (((t : Nat) : Int))) (y_assign rfl) rfl ?_
 refine wpL_nil ?_
 refine thenS_n ?_
 refine wpS_seq ?_
 refine wpS_region ?_
 refine s_y (v := .pointer (some ⟨b_1, 33, none⟩)) (y_fieldAddr (o' := 33) rfl Try.underlying155 rfl Try.sizeOf84 (by decide) rfl) rfl ?_
 refine s_y (v := .agg #[.int .i64 (((m : Nat) : Int)), .slice sa (m + 1) sc, .slice (some ⟨sb, 0, none⟩) 1 1, .slice none 0 0]) (y_loadN (vs := [.int .i64 (((m : Nat) : Int)), .slice sa (m + 1) sc, .slice (some ⟨sb, 0, none⟩) 1 1, .slice none 0 0]) rfl Try.isAgg84 Try.sizeOf84 (ownN .h (pre_getN 0 hpre rfl))) rfl ?_
 refine s_y (v := .pointer (some ⟨b_1, 37, none⟩)) (y_fieldAddr (o' := 37) rfl Try.underlying155 rfl Try.sizeOf53 (by decide) rfl) rfl ?_
 refine s_y (v := .agg #[.int .i64 (((R : Nat) : Int)), .int .i64 (((m : Nat) : Int)), .int .i64 (((S : Nat) : Int)), .int .i64 (((Wn : Nat) : Int))]) (y_loadN (vs := [.int .i64 (((R : Nat) : Int)), .int .i64 (((m : Nat) : Int)), .int .i64 (((S : Nat) : Int)), .int .i64 (((Wn : Nat) : Int))]) rfl Try.isAgg53 Try.sizeOf53 (ownN .h (pre_getN 4 hpre rfl))) rfl ?_
 refine s_y (v := .pointer (some ⟨b_1, 41, none⟩)) (y_fieldAddr (o' := 41) rfl Try.underlying155 rfl Try.sizeOf153 (by decide) rfl) rfl ?_
 refine s_y (v := .slice ga R gc) (y_load1 (v := .slice ga R gc) rfl Try.isAgg153 (own1 .h (pre_get 8 hpre rfl))) rfl ?_
 refine s_y (v := .int .i64 (((t : Nat) : Int))) (y_move rfl) rfl ?_
 refine s_e rfl ?_
 refine e_call (f := 136) (args := #[.agg #[.int .i64 (((m : Nat) : Int)), .slice sa (m + 1) sc, .slice (some ⟨sb, 0, none⟩) 1 1, .slice none 0 0], .agg #[.int .i64 (((R : Nat) : Int)), .int .i64 (((m : Nat) : Int)), .int .i64 (((S : Nat) : Int)), .int .i64 (((Wn : Nat) : Int))], .slice ga R gc, .int .i64 (((t : Nat) : Int))]) (X := (Option Addr × Nat) × List SlH) (A := []) (M := [cel b_1 155 (pj pre [.int .i64 (((m : Nat) : Int)), .slice sa (m + 1) sc, .slice (some ⟨sb, 0, none⟩) 1 1, .slice none 0 0, .int .i64 (((R : Nat) : Int)), .int .i64 (((m : Nat) : Int)), .int .i64 (((S : Nat) : Int)), .int .i64 (((Wn : Nat) : Int)), .slice ga R gc]), osl ga gc R 2 89 (li.flatMap prV), osl sa sc (m + 1) 6 86 ((smapL m).flatMap opcV), cel sb 86 [.int .i64 2, .int .i64 0, .int .i64 0, .int .i64 1, .int .i64 0, .int .i64 0]]) (V := fun x => .tuple #[.slice x.1.1 (2 ^ K) x.1.2, .int .i64 0]) (A' := fun x => [osl x.1.1 x.1.2 (2 ^ K) 1 69 (x.2.flatMap slhV), fam x.2 (stg3 (chkB ((m : Nat) : Int) (smapL m) ([(Opc.mk 2 0 0 1 0 0)]) ([])) ([(Opc.mk 2 0 0 1 0 0)]) ([]) K (mpD (chkB ((m : Nat) : Int) (smapL m) ([(Opc.mk 2 0 0 1 0 0)]) ([])) ((m : Nat) : Int) (smapL m) S m li nb (2 ^ K)) t)]) (C := fun x => x.2.length = (2 ^ K) ∧ ∀ k, k < (2 ^ K) → (x.2.getD k default).n = S) Try.call136 (ev4 rfl rfl rfl rfl) (.p .h (.p .h (.p .h (.p .h .nil)))) (fun w hs => stage_c sa (some ⟨sb, 0, none⟩) none (m + 1) sc 1 1 0 0 (smapL m) ([(Opc.mk 2 0 0 1 0 0)]) ([]) R m S ((Wn : Nat) : Int) nb K ga gc li t w hj (by first | rfl | (simp only [List.length_set]; done) | omega) (oslR (.t (.t .h)) w hs) (by omega) (by first | rfl | (simp only [List.length_set]; done) | omega) (celR (.t (.t (.t .h))) w hs) (by omega) (by first | rfl | (simp only [List.length_set]; done) | omega) (Rds.nil _ _) (by omega) hck (by first | rfl | (simp only [List.length_set]; done) | omega) (oslR (.t .h) w hs) (by omega) (by omega)) ?_
 rintro ⟨⟨a_2, c_3⟩, h_4⟩ ⟨hH5l, hH5n⟩
 replace hH5l : h_4.length = (2 ^ K) := hH5l
 replace hH5n : ∀ k, k < (2 ^ K) → (h_4.getD k default).n = S := hH5n
 have HX := hH5n
 have HL := hH5l
 have hsl := stg_len (jpM (li := li) hj hck) (t := t) (by omega)
 generalize hD : (stg3 (chkB ((m : Nat) : Int) (smapL m) ([(Opc.mk 2 0 0 1 0 0)]) ([])) ([(Opc.mk 2 0 0 1 0 0)]) ([]) K (mpD (chkB ((m : Nat) : Int) (smapL m) ([(Opc.mk 2 0 0 1 0 0)]) ([])) ((m : Nat) : Int) (smapL m) S m li nb (2 ^ K)) t) = D
 rw [hD] at hsl
 refine s_y (v := .tuple #[.slice a_2 (2 ^ K) c_3, .int .i64 0]) (y_move rfl) rfl ?_
 refine s_y (v := .slice a_2 (2 ^ K) c_3) (y_extract (v := .slice a_2 (2 ^ K) c_3) rfl rfl) rfl ?_
 refine s_y (v := .int .i64 0) (y_extract (v := .int .i64 0) rfl rfl) rfl ?_
 refine s_y (v := .slice a_2 (2 ^ K) c_3) (y_assign rfl) rfl ?_
 refine s_y (v := .int .i64 0) (y_assign rfl) rfl ?_
 refine wpL_nil ?_
 refine thenS_n ?_
 refine wpS_seq ?_
 refine wpS_seq ?_
 refine wpS_region ?_
 refine s_y (v := .bool true) (y_call (args := #[]) (v := .bool true) Try.call137 ev0 (fun w hs => awake16_c w)) rfl ?_
 refine s_y (v := .bool false) (y_notK (b := true) (c := false) rfl rfl) rfl ?_
 refine s_y (v := .bool false) (y_move rfl) rfl ?_
 refine s_gy (y_move rfl) rfl rfl rfl rfl rfl rfl ?_
 refine s_gy (y_neq (a := 0) (b := 0) (c := false) rfl rfl (by decide)) rfl rfl rfl rfl rfl rfl ?_
 refine s_y (v := .bool false) (y_pickF (v := .bool false) rfl rfl rfl) rfl ?_
 refine s_y (v := .bool false) (y_move rfl) rfl ?_
 refine s_gy (y_move rfl) rfl rfl rfl rfl rfl rfl ?_
 refine s_gy (y_len (ty' := 0) (at_ := #[]) rfl Try.underlying80) rfl rfl rfl rfl rfl rfl ?_
 refine s_gy (y_move rfl) rfl rfl rfl rfl rfl rfl ?_
 refine s_gy (y_neq (a := (((2 ^ K) : Nat) : Int)) (b := (((2 ^ K) : Nat) : Int)) (c := decide ((2 ^ K) ≠ (2 ^ K))) rfl rfl (decide_eq_decide.2 (by omega))) rfl rfl rfl rfl rfl rfl ?_
 refine s_y (v := .bool (decide ((2 ^ K) ≠ (2 ^ K)))) (y_pickF (v := .bool (decide ((2 ^ K) ≠ (2 ^ K)))) rfl rfl rfl) rfl ?_
 refine wpL_nil ?_
 refine thenS_n ?_
 refine wpS_cond_F (t := decide ((2 ^ K) ≠ (2 ^ K))) rfl (decide_eq_false (by omega)) ?_
 refine wpS_skip ?_
 refine thenS_n ?_
 refine wpS_seq ?_
 refine wpS_region ?_
 refine s_y (v := .slice none 0 0) (y_assign rfl) rfl ?_
 refine wpL_nil ?_
 refine thenS_n ?_
 refine wpS_seq ?_
 refine wpS_seq ?_
 refine wpS_region ?_
 refine s_y (v := .int .i64 0) (y_assign rfl) rfl ?_
 refine wpL_nil ?_
 refine thenS_n ?_
 refine wpS_block ?_
 refine wpS_nil0 4 23 ?_
 refine wpS_loop (fun mez ds σ L => ∃ b : Nat, ∃ fl : List Rec, ∃ fa : Option Addr, ∃ fc : Nat, mez = 2 ^ K - b ∧ (b ≤ 2 ^ K) ∧ (fl.length = b * S) ∧ (fl = (D.take b).flatten) ∧ (b ≤ fl.length) ∧ (fl.length ≤ 1000) ∧ ds = [] ∧ σ 1 = .int .i64 (((t : Nat) : Int)) ∧ σ 2 = .pointer (some ⟨b_1, 0, none⟩) ∧ σ 7 = .int .i64 ((((rnd ((((2 ^ K) : Nat) : Int))) : Nat) : Int)) ∧ σ 8 = .slice a_2 (2 ^ K) c_3 ∧ σ 10 = .slice fa fl.length fc ∧ σ 11 = .int .i64 (((b : Nat) : Int)) ∧ Ent L [osl fa fc fl.length 4 23 (fl.flatMap recV), osl a_2 c_3 (2 ^ K) 1 69 (h_4.flatMap slhV), fam h_4 D, cel b_1 155 (pj pre [.int .i64 (((m : Nat) : Int)), .slice sa (m + 1) sc, .slice (some ⟨sb, 0, none⟩) 1 1, .slice none 0 0, .int .i64 (((R : Nat) : Int)), .int .i64 (((m : Nat) : Int)), .int .i64 (((S : Nat) : Int)), .int .i64 (((Wn : Nat) : Int)), .slice ga R gc]), osl ga gc R 2 89 (li.flatMap prV), osl sa sc (m + 1) 6 86 ((smapL m).flatMap opcV), cel sb 86 [.int .i64 2, .int .i64 0, .int .i64 0, .int .i64 1, .int .i64 0, .int .i64 0]]) (m0 := 2 ^ K - 0) ⟨0, [], none, 0, rfl, by omega, (by rw [Nat.zero_mul]; rfl), (by simp), (Nat.zero_le _), (Nat.zero_le _), rfl, rfl, rfl, rfl, rfl, rfl, rfl, .p .h (.p .h (.p .h (.p .h (.p .h (.p .h (.p .h .nil))))))⟩ ?_
 rintro mez ds σ L ⟨b, fl, fa, fc, hm_6, hf0_6, hf1_6, hf2_6, hf3_6, hf4_6, rfl, h1_6, h2_6, h7_6, h8_6, h10_6, h11_6, hE_6⟩
 refine wpS_ent hE_6 ?_; clear hE_6
 have hbS : b * S ≤ 32 * 8 := Nat.mul_le_mul (by omega) (by omega)
 have hb1 : (b + 1) * S = b * S + S := Nat.succ_mul b S
 refine wpS_seq ?_
 refine wpS_seq ?_
 refine wpS_region ?_
 refine s_y (v := .int .i64 (((b : Nat) : Int))) (y_move h11_6) rfl ?_
 refine s_y (v := .slice a_2 (2 ^ K) c_3) (y_move h8_6) rfl ?_
 refine s_y (v := .int .i64 ((((2 ^ K) : Nat) : Int))) (y_len (ty' := 0) (at_ := #[]) rfl Try.underlying80) rfl ?_
 refine s_y (v := .bool (decide (b < (2 ^ K)))) (y_lss (a := ((b : Nat) : Int)) (b := (((2 ^ K) : Nat) : Int)) (c := decide (b < (2 ^ K))) rfl rfl (decide_eq_decide.2 (by omega))) rfl ?_
 refine wpL_nil ?_
 refine thenS_n ?_
 refine wpS_cond (t := decide (b < (2 ^ K))) rfl (fun b7 => ?_) (fun b7 => ?_)
 ·
  have p7 := of_decide_eq_true b7
  refine wpS_skip ?_
  refine thenS_n ?_
  refine wpS_seq ?_
  refine wpS_block ?_
  refine wpS_seq ?_
  refine wpS_seq ?_
  refine wpS_lex (by kernel_rfl) (by kernel_rfl) ?_
  refine x_y (v := .slice a_2 (2 ^ K) c_3) (y_move h8_6) rfl ?_
  refine x_y (v := .int .i64 (((b : Nat) : Int))) (y_move h11_6) rfl ?_
  refine x_y (v := .pointer (some ⟨aB a_2, aO a_2 + b * 1, none⟩)) (y_idx (o := b * 1) rfl rfl Try.underlying80 Try.sizeOf69 (oslR (.t .h)) ((fl_len slhV_len _).trans (by first | omega | (simp only [List.length_set, List.length_take, List.length_drop]; done) | (simp only [List.length_set, List.length_take, List.length_drop]; omega))) (by decide) (by omega) (by omega) (by omega)) rfl ?_
  refine x_y (v := .slice ((h_4.getD b default).a) ((h_4.getD b default).n) ((h_4.getD b default).c)) (y_load1 (v := .slice ((h_4.getD b default).a) ((h_4.getD b default).n) ((h_4.getD b default).c)) rfl Try.isAgg69 (rd1 (k := b * 1) (oslR (.t .h)) (fl_get0 slhV_len h_4 b (by first | omega | (simp only [List.length_set, List.length_take, List.length_drop]; done) | (simp only [List.length_set, List.length_take, List.length_drop]; omega)) rfl))) rfl ?_
  have hblk := getD_len hsl (show b < 2 ^ K by omega)
  have hHb := HX b (by omega)
  refine x_y (v := .int .i64 ((((h_4.getD b default).n : Nat) : Int))) (y_len (ty' := 0) (at_ := #[]) rfl Try.underlying69) rfl ?_
  refine x_y (v := .pointer (some ⟨b_1, 37, none⟩)) (y_fieldAddr (o' := 37) h2_6 Try.underlying155 rfl Try.sizeOf53 (by decide) rfl) rfl ?_
  refine x_y (v := .pointer (some ⟨b_1, 39, none⟩)) (y_fieldAddr (o' := 39) rfl Try.underlying53 rfl Try.sizeOf3 (by decide) rfl) rfl ?_
  refine x_y (v := .int .i64 (((S : Nat) : Int))) (y_load1 (v := .int .i64 (((S : Nat) : Int))) rfl Try.isAgg3 (own1 (.t (.t (.t .h))) (pre_get 6 hpre rfl))) rfl ?_
  refine x_y (v := .bool (decide (((h_4.getD b default).n) ≠ S))) (y_neq (a := (((h_4.getD b default).n : Nat) : Int)) (b := ((S : Nat) : Int)) (c := decide (((h_4.getD b default).n) ≠ S)) rfl rfl (decide_eq_decide.2 (by omega))) rfl ?_
  refine x_nil ?_
  refine thenS_n ?_
  refine wpS_cond_F (t := decide (((h_4.getD b default).n) ≠ S)) rfl (decide_eq_false (by omega)) ?_
  refine wpS_skip ?_
  refine thenS_n ?_
  refine wpS_region ?_
  refine s_y (v := .slice fa fl.length fc) (y_move h10_6) rfl ?_
  refine s_y (v := .slice a_2 (2 ^ K) c_3) (y_move h8_6) rfl ?_
  refine s_y (v := .int .i64 (((b : Nat) : Int))) (y_move h11_6) rfl ?_
  refine s_y (v := .pointer (some ⟨aB a_2, aO a_2 + b * 1, none⟩)) (y_idx (o := b * 1) rfl rfl Try.underlying80 Try.sizeOf69 (oslR (.t .h)) ((fl_len slhV_len _).trans (by first | omega | (simp only [List.length_set, List.length_take, List.length_drop]; done) | (simp only [List.length_set, List.length_take, List.length_drop]; omega))) (by decide) (by omega) (by omega) (by omega)) rfl ?_
  refine s_y (v := .slice ((h_4.getD b default).a) ((h_4.getD b default).n) ((h_4.getD b default).c)) (y_load1 (v := .slice ((h_4.getD b default).a) ((h_4.getD b default).n) ((h_4.getD b default).c)) rfl Try.isAgg69 (rd1 (k := b * 1) (oslR (.t .h)) (fl_get0 slhV_len h_4 b (by first | omega | (simp only [List.length_set, List.length_take, List.length_drop]; done) | (simp only [List.length_set, List.length_take, List.length_drop]; omega)) rfl))) rfl ?_
  have hblk := getD_len hsl (show b < 2 ^ K by omega)
  have hHb := HX b (by omega)
  refine s_e rfl ?_
  refine e_appendL (enc := recV) (xs := (fl : List Rec)) (ns := ((D.getD b []) : List Rec)) (zs := (fl ++ (D.getD b []))) (bytes := 32) recV_len recV_one Try.underlying69 (i := Try.t23) rfl rfl rfl rfl rfl (by decide) rfl rfl (by first | rfl | omega) (hblk.trans (HX b (by omega)).symm).symm .h (fam_rd (.t (.t .h)) (by omega)) (by first | rfl | simp) (by rw [List.length_append]; omega) (by rw [List.length_append]; omega) ?_
  intro a_8 c_9
  refine s_y (v := .slice a_8 ((fl ++ (D.getD b [])).length) c_9) (y_assign rfl) rfl ?_
  refine wpL_nil ?_
  refine blockS_n ?_
  refine thenS_n ?_
  refine wpS_region ?_
  refine s_y (v := .int .i64 (((b : Nat) : Int))) (y_move h11_6) rfl ?_
  refine s_y (v := .int .i64 ((((b + 1) : Nat) : Int))) (y_add (a := ((b : Nat) : Int)) (b := 1) (c := (((b + 1) : Nat) : Int)) rfl rfl (wI (by omega) (by omega) (by omega))) rfl ?_
  refine s_y (v := .int .i64 ((((b + 1) : Nat) : Int))) (y_assign rfl) rfl ?_
  refine wpL_nil ?_
  refine thenS_n ?_
  exact ⟨_, by omega, ⟨(b + 1), (fl ++ (D.getD b [])), a_8, c_9, rfl, by omega, (by rw [List.length_append]; omega), (flat_next (by assumption) (by omega)), (by rw [List.length_append]; omega), (by rw [List.length_append]; omega), rfl, h1_6, h2_6, h7_6, h8_6, rfl, rfl, .p .h (.p .h (.p .h (.p .h (.p .h (.p .h (.p .h .nil))))))⟩⟩
 ·
  have p7 := of_decide_eq_false b7
  refine wpS_exit ?_
  refine thenS_x ?_
  refine thenS_x ?_
  refine blockS_h ?_
  refine thenS_n ?_
  refine wpS_seq ?_
  refine wpS_seq ?_
  refine wpS_region ?_
  refine s_y (v := .int .i64 (((t : Nat) : Int))) (y_move h1_6) rfl ?_
  refine s_y (v := .int .i64 ((((rnd ((((2 ^ K) : Nat) : Int))) : Nat) : Int))) (y_move h7_6) rfl ?_
  refine s_y (v := .int .i64 ((((1 + (rnd ((((2 ^ K) : Nat) : Int)))) : Nat) : Int))) (y_add (a := 1) (b := (((rnd ((((2 ^ K) : Nat) : Int))) : Nat) : Int)) (c := (((1 + (rnd ((((2 ^ K) : Nat) : Int)))) : Nat) : Int)) rfl rfl (wI (by omega) (by omega) (by omega))) rfl ?_
  refine s_y (v := .bool (decide (t = (1 + (rnd ((((2 ^ K) : Nat) : Int))))))) (y_eql (a := ((t : Nat) : Int)) (b := (((1 + (rnd ((((2 ^ K) : Nat) : Int)))) : Nat) : Int)) (c := decide (t = (1 + (rnd ((((2 ^ K) : Nat) : Int)))))) rfl rfl (decide_eq_decide.2 (by omega))) rfl ?_
  refine s_y (v := .bool (decide (t = (1 + (rnd ((((2 ^ K) : Nat) : Int))))))) (y_move rfl) rfl ?_
  rcases Bool.eq_false_or_eq_true (decide (t = (1 + (rnd ((((2 ^ K) : Nat) : Int)))))) with b10 | b10
  ·
   have p10 := of_decide_eq_true b10
   refine s_gy (y_move h10_6) rfl rfl rfl rfl (b' := decide (t = (1 + (rnd ((((2 ^ K) : Nat) : Int)))))) rfl b10 ?_
   refine s_gy (y_call (args := #[.slice fa fl.length fc, .bool true]) (v := .bool ((srtd true fl))) Try.call80 (ev2 rfl rfl) (fun w hs => refsorted_c fa fl.length fc fl true w rfl (oslR .h w hs) (by omega))) rfl rfl rfl rfl (b' := decide (t = (1 + (rnd ((((2 ^ K) : Nat) : Int)))))) rfl b10 ?_
   refine s_gy (y_not (b := (srtd true fl)) rfl) rfl rfl rfl rfl (b' := decide (t = (1 + (rnd ((((2 ^ K) : Nat) : Int)))))) rfl b10 ?_
   refine s_gy (y_move rfl) rfl rfl rfl rfl (b' := decide (t = (1 + (rnd ((((2 ^ K) : Nat) : Int)))))) rfl b10 ?_
   refine s_gy (y_move h10_6) rfl rfl rfl rfl (b' := !(srtd true fl)) rfl (congrArg not (shape_1 (t := t) (b := b) (li := li) (fl := fl) hj hck (by omega) (by omega) (by rw [hD]; assumption) (by omega)).1) ?_
   refine s_gy (y_move h10_6) rfl rfl rfl rfl (b' := !(srtd true fl)) rfl (congrArg not (shape_1 (t := t) (b := b) (li := li) (fl := fl) hj hck (by omega) (by omega) (by rw [hD]; assumption) (by omega)).1) ?_
   refine s_gy (y_len (ty' := 0) (at_ := #[]) rfl Try.underlying69) rfl rfl rfl rfl (b' := !(srtd true fl)) rfl (congrArg not (shape_1 (t := t) (b := b) (li := li) (fl := fl) hj hck (by omega) (by omega) (by rw [hD]; assumption) (by omega)).1) ?_
   refine s_gy (y_sub (a := ((fl.length : Nat) : Int)) (b := 1) (c := (((fl.length - 1) : Nat) : Int)) rfl rfl (wI (by omega) (by omega) (by omega))) rfl rfl rfl rfl (b' := !(srtd true fl)) rfl (congrArg not (shape_1 (t := t) (b := b) (li := li) (fl := fl) hj hck (by omega) (by omega) (by rw [hD]; assumption) (by omega)).1) ?_
   refine s_gy (y_idx (o := (fl.length - 1) * 4) rfl rfl Try.underlying69 Try.sizeOf23 (oslR .h) (fl_len recV_len _) (by decide) (by omega) (by omega) (by omega)) rfl rfl rfl rfl (b' := !(srtd true fl)) rfl (congrArg not (shape_1 (t := t) (b := b) (li := li) (fl := fl) hj hck (by omega) (by omega) (by rw [hD]; assumption) (by omega)).1) ?_
   refine s_gy (y_fieldAddr (o' := aO fa + (fl.length - 1) * 4) rfl Try.underlying23 rfl Try.sizeOf4 (by decide) rfl) rfl rfl rfl rfl (b' := !(srtd true fl)) rfl (congrArg not (shape_1 (t := t) (b := b) (li := li) (fl := fl) hj hck (by omega) (by omega) (by rw [hD]; assumption) (by omega)).1) ?_
   refine s_gy (y_load1 (v := .bool ((fl.getD (fl.length - 1) default).dead)) rfl Try.isAgg4 (rd1 (k := (fl.length - 1) * 4) (oslR .h) (fl_get0 recV_len fl (fl.length - 1) (by first | omega | (simp only [List.length_set, List.length_take, List.length_drop]; done) | (simp only [List.length_set, List.length_take, List.length_drop]; omega)) rfl))) rfl rfl rfl rfl (b' := !(srtd true fl)) rfl (congrArg not (shape_1 (t := t) (b := b) (li := li) (fl := fl) hj hck (by omega) (by omega) (by rw [hD]; assumption) (by omega)).1) ?_
   refine s_gy (y_not (b := (fl.getD (fl.length - 1) default).dead) rfl) rfl rfl rfl rfl (b' := !(srtd true fl)) rfl (congrArg not (shape_1 (t := t) (b := b) (li := li) (fl := fl) hj hck (by omega) (by omega) (by rw [hD]; assumption) (by omega)).1) ?_
   refine s_gy (y_pickF (b := !(srtd true fl)) (v := .bool (!((fl.getD (fl.length - 1) default).dead))) rfl (congrArg not (shape_1 (t := t) (b := b) (li := li) (fl := fl) hj hck (by omega) (by omega) (by rw [hD]; assumption) (by omega)).1) rfl) rfl rfl rfl rfl (b' := decide (t = (1 + (rnd ((((2 ^ K) : Nat) : Int)))))) rfl b10 ?_
   refine s_y (v := .bool (!((fl.getD (fl.length - 1) default).dead))) (y_pickT (b := decide (t = (1 + (rnd ((((2 ^ K) : Nat) : Int)))))) (v := .bool (!((fl.getD (fl.length - 1) default).dead))) rfl b10 rfl) rfl ?_
   refine wpL_nil ?_
   refine thenS_n ?_
   refine wpS_cond_F (t := !((fl.getD (fl.length - 1) default).dead)) rfl (congrArg not (shape_1 (t := t) (b := b) (li := li) (fl := fl) hj hck (by omega) (by omega) (by rw [hD]; assumption) (by omega)).2) ?_
   refine wpS_skip ?_
   refine thenS_n ?_
   refine wpS_seq ?_
   refine wpS_region ?_
   refine s_y (v := .int .i64 (((t : Nat) : Int))) (y_move h1_6) rfl ?_
   refine s_y (v := .int .i64 ((((rnd ((((2 ^ K) : Nat) : Int))) : Nat) : Int))) (y_move h7_6) rfl ?_
   refine s_y (v := .int .i64 ((((2 * (rnd ((((2 ^ K) : Nat) : Int)))) : Nat) : Int))) (y_mul (a := 2) (b := (((rnd ((((2 ^ K) : Nat) : Int))) : Nat) : Int)) (c := (((2 * (rnd ((((2 ^ K) : Nat) : Int)))) : Nat) : Int)) rfl rfl (wI (by omega) (by omega) (by omega))) rfl ?_
   refine s_y (v := .int .i64 ((((2 + (2 * (rnd ((((2 ^ K) : Nat) : Int))))) : Nat) : Int))) (y_add (a := 2) (b := (((2 * (rnd ((((2 ^ K) : Nat) : Int)))) : Nat) : Int)) (c := (((2 + (2 * (rnd ((((2 ^ K) : Nat) : Int))))) : Nat) : Int)) rfl rfl (wI (by omega) (by omega) (by omega))) rfl ?_
   refine s_y (v := .bool (decide (t ≠ (2 + (2 * (rnd ((((2 ^ K) : Nat) : Int)))))))) (y_neq (a := ((t : Nat) : Int)) (b := (((2 + (2 * (rnd ((((2 ^ K) : Nat) : Int))))) : Nat) : Int)) (c := decide (t ≠ (2 + (2 * (rnd ((((2 ^ K) : Nat) : Int))))))) rfl rfl (decide_eq_decide.2 (by omega))) rfl ?_
   refine s_y (v := .bool (decide (t ≠ (2 + (2 * (rnd ((((2 ^ K) : Nat) : Int)))))))) (y_move rfl) rfl ?_
   rcases Bool.eq_false_or_eq_true (decide (t ≠ (2 + (2 * (rnd ((((2 ^ K) : Nat) : Int))))))) with b11 | b11
   ·
    have p11 := of_decide_eq_true b11
    refine s_no rfl rfl rfl rfl (b' := decide (t ≠ (2 + (2 * (rnd ((((2 ^ K) : Nat) : Int))))))) rfl b11 ?_
    refine s_no rfl rfl rfl rfl (b' := decide (t ≠ (2 + (2 * (rnd ((((2 ^ K) : Nat) : Int))))))) rfl b11 ?_
    refine s_y (v := .bool true) (y_pickT (b := decide (t ≠ (2 + (2 * (rnd ((((2 ^ K) : Nat) : Int))))))) (v := .bool true) rfl b11 rfl) rfl ?_
    refine s_y (v := .bool true) (y_assign rfl) rfl ?_
    refine wpL_nil ?_
    refine thenS_n ?_
    refine wpS_ret ?_
    refine fin1 (v := .bool true) (.inr rfl) (.nil) Try.results37 rfl ?_
    exact fun w' hs => ⟨rfl, hs⟩
   ·
    have p11 := of_decide_eq_false b11
    refine s_gy (y_move h10_6) rfl rfl rfl rfl (b' := decide (t ≠ (2 + (2 * (rnd ((((2 ^ K) : Nat) : Int))))))) rfl b11 ?_
    refine s_gy (y_call (args := #[.slice fa fl.length fc, .bool false]) (v := .bool ((srtd false fl))) Try.call80 (ev2 rfl rfl) (fun w hs => refsorted_c fa fl.length fc fl false w rfl (oslR .h w hs) (by omega))) rfl rfl rfl rfl (b' := decide (t ≠ (2 + (2 * (rnd ((((2 ^ K) : Nat) : Int))))))) rfl b11 ?_
    refine s_y (v := .bool ((srtd false fl))) (y_pickF (b := decide (t ≠ (2 + (2 * (rnd ((((2 ^ K) : Nat) : Int))))))) (v := .bool ((srtd false fl))) rfl b11 rfl) rfl ?_
    refine s_y (v := .bool ((srtd false fl))) (y_assign rfl) rfl ?_
    refine wpL_nil ?_
    refine thenS_n ?_
    refine wpS_ret ?_
    refine fin1 (v := .bool ((srtd false fl))) (.inr rfl) (.nil) Try.results37 rfl ?_
    exact fun w' hs => ⟨congrArg (fun b => Ending.returned (Value.bool b)) (show ((srtd false fl)) = true from (shape_2 (t := t) (b := b) (li := li) (fl := fl) hj hck (by omega) (by rw [hD]; assumption) (by omega))), hs⟩
  ·
   have p10 := of_decide_eq_false b10
   refine s_no rfl rfl rfl rfl (b' := decide (t = (1 + (rnd ((((2 ^ K) : Nat) : Int)))))) rfl b10 ?_
   refine s_no rfl rfl rfl rfl (b' := decide (t = (1 + (rnd ((((2 ^ K) : Nat) : Int)))))) rfl b10 ?_
   refine s_no rfl rfl rfl rfl (b' := decide (t = (1 + (rnd ((((2 ^ K) : Nat) : Int)))))) rfl b10 ?_
   refine s_no rfl rfl rfl rfl (b' := decide (t = (1 + (rnd ((((2 ^ K) : Nat) : Int)))))) rfl b10 ?_
   refine s_nu rfl rfl rfl rfl rfl ?_
   refine s_nu rfl rfl rfl rfl rfl ?_
   refine s_nu rfl rfl rfl rfl rfl ?_
   refine s_nu rfl rfl rfl rfl rfl ?_
   refine s_nu rfl rfl rfl rfl rfl ?_
   refine s_nu rfl rfl rfl rfl rfl ?_
   refine s_nu rfl rfl rfl rfl rfl ?_
   refine s_nu rfl rfl rfl rfl rfl ?_
   refine s_no rfl rfl rfl rfl (b' := decide (t = (1 + (rnd ((((2 ^ K) : Nat) : Int)))))) rfl b10 ?_
   refine s_y (v := .bool false) (y_pickF (b := decide (t = (1 + (rnd ((((2 ^ K) : Nat) : Int)))))) (v := .bool false) rfl b10 rfl) rfl ?_
   refine wpL_nil ?_
   refine thenS_n ?_
   refine wpS_cond_f rfl ?_
   refine wpS_skip ?_
   refine thenS_n ?_
   refine wpS_seq ?_
   refine wpS_region ?_
   refine s_y (v := .int .i64 (((t : Nat) : Int))) (y_move h1_6) rfl ?_
   refine s_y (v := .int .i64 ((((rnd ((((2 ^ K) : Nat) : Int))) : Nat) : Int))) (y_move h7_6) rfl ?_
   refine s_y (v := .int .i64 ((((2 * (rnd ((((2 ^ K) : Nat) : Int)))) : Nat) : Int))) (y_mul (a := 2) (b := (((rnd ((((2 ^ K) : Nat) : Int))) : Nat) : Int)) (c := (((2 * (rnd ((((2 ^ K) : Nat) : Int)))) : Nat) : Int)) rfl rfl (wI (by omega) (by omega) (by omega))) rfl ?_
   refine s_y (v := .int .i64 ((((2 + (2 * (rnd ((((2 ^ K) : Nat) : Int))))) : Nat) : Int))) (y_add (a := 2) (b := (((2 * (rnd ((((2 ^ K) : Nat) : Int)))) : Nat) : Int)) (c := (((2 + (2 * (rnd ((((2 ^ K) : Nat) : Int))))) : Nat) : Int)) rfl rfl (wI (by omega) (by omega) (by omega))) rfl ?_
   refine s_y (v := .bool (decide (t ≠ (2 + (2 * (rnd ((((2 ^ K) : Nat) : Int)))))))) (y_neq (a := ((t : Nat) : Int)) (b := (((2 + (2 * (rnd ((((2 ^ K) : Nat) : Int))))) : Nat) : Int)) (c := decide (t ≠ (2 + (2 * (rnd ((((2 ^ K) : Nat) : Int))))))) rfl rfl (decide_eq_decide.2 (by omega))) rfl ?_
   refine s_y (v := .bool (decide (t ≠ (2 + (2 * (rnd ((((2 ^ K) : Nat) : Int)))))))) (y_move rfl) rfl ?_
   rcases Bool.eq_false_or_eq_true (decide (t ≠ (2 + (2 * (rnd ((((2 ^ K) : Nat) : Int))))))) with b12 | b12
   ·
    have p12 := of_decide_eq_true b12
    refine s_no rfl rfl rfl rfl (b' := decide (t ≠ (2 + (2 * (rnd ((((2 ^ K) : Nat) : Int))))))) rfl b12 ?_
    refine s_no rfl rfl rfl rfl (b' := decide (t ≠ (2 + (2 * (rnd ((((2 ^ K) : Nat) : Int))))))) rfl b12 ?_
    refine s_y (v := .bool true) (y_pickT (b := decide (t ≠ (2 + (2 * (rnd ((((2 ^ K) : Nat) : Int))))))) (v := .bool true) rfl b12 rfl) rfl ?_
    refine s_y (v := .bool true) (y_assign rfl) rfl ?_
    refine wpL_nil ?_
    refine thenS_n ?_
    refine wpS_ret ?_
    refine fin1 (v := .bool true) (.inr rfl) (.nil) Try.results37 rfl ?_
    exact fun w' hs => ⟨rfl, hs⟩
   ·
    have p12 := of_decide_eq_false b12
    refine s_gy (y_move h10_6) rfl rfl rfl rfl (b' := decide (t ≠ (2 + (2 * (rnd ((((2 ^ K) : Nat) : Int))))))) rfl b12 ?_
    refine s_gy (y_call (args := #[.slice fa fl.length fc, .bool false]) (v := .bool ((srtd false fl))) Try.call80 (ev2 rfl rfl) (fun w hs => refsorted_c fa fl.length fc fl false w rfl (oslR .h w hs) (by omega))) rfl rfl rfl rfl (b' := decide (t ≠ (2 + (2 * (rnd ((((2 ^ K) : Nat) : Int))))))) rfl b12 ?_
    refine s_y (v := .bool ((srtd false fl))) (y_pickF (b := decide (t ≠ (2 + (2 * (rnd ((((2 ^ K) : Nat) : Int))))))) (v := .bool ((srtd false fl))) rfl b12 rfl) rfl ?_
    refine s_y (v := .bool ((srtd false fl))) (y_assign rfl) rfl ?_
    refine wpL_nil ?_
    refine thenS_n ?_
    refine wpS_ret ?_
    refine fin1 (v := .bool ((srtd false fl))) (.inr rfl) (.nil) Try.results37 rfl ?_
    exact fun w' hs => ⟨congrArg (fun b => Ending.returned (Value.bool b)) (show ((srtd false fl)) = true from (shape_2 (t := t) (b := b) (li := li) (fl := fl) hj hck (by omega) (by rw [hD]; assumption) (by omega))), hs⟩
theorem pshape (pre : List Value) (p0 p1 p2 p3 : Int) (ia : Option Addr) (inn ic : Nat) (lj : List Pr) (m : Nat) (k0 : Int) (a1 a2 a3 : Option Addr) (n1 c1 n2 c2 n3 c3 : Nat) (l1 l2 l3 : List Opc) (q : Int) (q1 : -9223372036854775808 ≤ q) (q2 : q < 9223372036854775808) (w : World) (hpre : pre.length = 33) (hpo : pre.all Value.oneCell' = true) (hmm : 1 + u64of p1 % 2 = m) (hn1 : l1.length = n1) (hr1 : Rds w a1 (l1.flatMap opcV)) (hb1 : n1 ≤ 9223372036854775807) (hn2 : l2.length = n2) (hr2 : Rds w a2 (l2.flatMap opcV)) (hb2 : n2 ≤ 9223372036854775807) (hn3 : l3.length = n3) (hr3 : Rds w a3 (l3.flatMap opcV)) (hb3 : n3 ≤ 9223372036854775807) (hni : lj.length = inn) (hri : Rds w ia (lj.flatMap prV)) (hbi : inn ≤ 9223372036854775807) (hci : inn ≤ ic)  : Pure Try.prog 37 #[.agg (pj pre [.int .i64 k0, .slice a1 n1 c1, .slice a2 n2 c2, .slice a3 n3 c3, .int .i64 p0, .int .i64 p1, .int .i64 p2, .int .i64 p3, .slice ia inn ic]).toArray, .int .i64 q] w (.bool true) := by
  cases hc : (chkB ((m : Nat) : Int) l1 l2 l3)
  · exact pshape_no pre p0 p1 p2 p3 ia inn ic lj m k0 a1 a2 a3 n1 c1 n2 c2 n3 c3 l1 l2 l3 q q1 q2 w hpre hpo hmm hn1 hr1 hb1 hn2 hr2 hb2 hn3 hr3 hb3 hni hri hbi hci hc
  · exact pshape_ok pre p0 p1 p2 p3 ia inn ic lj m k0 a1 a2 a3 n1 c1 n2 c2 n3 c3 l1 l2 l3 q q1 q2 w hpre hpo hmm hn1 hr1 hb1 hn2 hr2 hb2 hn3 hr3 hb3 hni hri hbi hci hc
end Go.Proofs.Ytldkjjnjdjfipaa
