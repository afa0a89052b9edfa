/- RPspec: a part of it: what its walk and its plain law need. -/
import Derived.WalkKit
import Derived.WalkSpells
import Derived.WalkLawsBesides
import Derived.TacticsIn
import Derived.OrdersIn
import Derived.RangeFuncIn
import Derived.RangeFuncLeaves
import Derived.RangeFuncRecord
import Derived.KernelRfl
import Derived.Maps.AppendAt
import Derived.Laws.Cover3
import Derived.Laws.MakeOwn
import Derived.Test.YtldkjjnjdjfipaaRows
import Derived.ChangeKeysEq
import Derived.Test.YtldkjjnjdjfipaaZPS2
namespace Go.Proofs.Ytldkjjnjdjfipaa
open Go Go.RowKit
set_option linter.unusedVariables false
set_option linter.unusedSimpArgs false
set_option maxRecDepth 10000
set_option maxHeartbeats 1000000
theorem all_step {α : Type} [Inhabited α] {l : List α} {f : α → Bool} {i : Nat} (hi : i < l.length) (h : (l.take i).all f = true) (h2 : f (l.getD i default) = true) : (l.take (i + 1)).all f = true := by
  rw [List.take_succ_eq_append_getElem hi, List.all_append, h]
  rw [List.getD_eq_getElem?_getD, List.getElem?_eq_getElem hi] at h2
  simpa using h2
theorem part_no {k : Int} {l : List Opc} {i : Nat} (hi : i < l.length) (h : opOk k (l.getD i default) = false) : partOk k l = false := by
  unfold partOk
  have h2 : l.all (opOk k) = false := by
    rw [List.all_eq_false]
    refine ⟨l.getD i default, ?_, by rw [h]; decide⟩
    rw [List.getD_eq_getElem?_getD, List.getElem?_eq_getElem hi]
    exact List.getElem_mem hi
  rw [h2, Bool.and_false]
theorem part_long {k : Int} {l : List Opc} (h : 40 < l.length) : partOk k l = false := by
  unfold partOk
  rw [decide_eq_false (by omega), Bool.false_and]
theorem part_yes {k : Int} {l : List Opc} {i : Nat} (h1 : l.length ≤ 40) (hi : l.length ≤ i) (h : (l.take i).all (opOk k) = true) : partOk k l = true := by
  rw [List.take_of_length_le hi] at h
  unfold partOk
  rw [h, decide_eq_true h1]
  rfl
theorem op_no1 {k : Int} {o : Opc} (h : o.o0 < 1 ∨ 12 < o.o0) : opOk k o = false := by
  unfold opOk
  rw [decide_eq_false (show ¬ (1 ≤ o.o0 ∧ o.o0 ≤ 12) by omega), Bool.false_and, Bool.false_and]
theorem op_no2 {k : Int} {o : Opc} {j : Nat} (hj : j < 4) (h : ([o.o1, o.o2, o.o3, o.o4] : List Int).getD j default < 0 ∨ 8 ≤ ([o.o1, o.o2, o.o3, o.o4] : List Int).getD j default) : opOk k o = false := by
  have h2 : (rOk o.o1 && rOk o.o2 && rOk o.o3 && rOk o.o4) = false := by
    rw [Bool.eq_false_iff]
    intro h3
    simp only [Bool.and_eq_true, rOk, decide_eq_true_eq] at h3
    match j, hj with
    | 0, _ => simp at h; omega
    | 1, _ => simp at h; omega
    | 2, _ => simp at h; omega
    | 3, _ => simp at h; omega
  unfold opOk
  rw [h2, Bool.and_false, Bool.false_and]
theorem op_no3 {k : Int} {o : Opc} (h : o.o0 = 12) (h2 : o.o5.toInt < 0 ∨ k ≤ o.o5.toInt) : opOk k o = false := by
  unfold opOk
  rw [decide_eq_false (show ¬ (o.o0 ≠ 12) by omega), decide_eq_false (show ¬ (0 ≤ o.o5.toInt ∧ o.o5.toInt < k) by omega)]
  simp
theorem reg_all {o : Opc} {j : Nat} (hj : 4 ≤ j) (h : (([o.o1, o.o2, o.o3, o.o4] : List Int).take j).all rOk = true) : (rOk o.o1 && rOk o.o2 && rOk o.o3 && rOk o.o4) = true := by
  rw [List.take_of_length_le hj] at h
  simpa [Bool.and_assoc] using h
theorem op_yes {k : Int} {o : Opc} {j : Nat} (h1 : 1 ≤ o.o0) (h2 : o.o0 ≤ 12) (hj : 4 ≤ j) (h : (([o.o1, o.o2, o.o3, o.o4] : List Int).take j).all rOk = true) (h3 : o.o0 = 12 → 0 ≤ o.o5.toInt ∧ o.o5.toInt < k) : opOk k o = true := by
  unfold opOk
  rw [reg_all hj h, decide_eq_true ⟨h1, h2⟩]
  by_cases h4 : o.o0 = 12
  · rw [decide_eq_true (h3 h4)]; simp
  · rw [decide_eq_true h4]; rfl
theorem chk_n0 {k : Int} {a b c : List Opc} (h : k < 1 ∨ 4 < k) : chkB k a b c = false := by unfold chkB; rw [decide_eq_false (by omega), Bool.false_and]
theorem chk_n1 {k : Int} {a b c : List Opc} (h : partOk k a = false) : chkB k a b c = false := by unfold chkB; rw [h]; simp
theorem chk_n2 {k : Int} {a b c : List Opc} (h : partOk 0 b = false) : chkB k a b c = false := by unfold chkB; rw [h]; simp
theorem chk_n3 {k : Int} {a b c : List Opc} (h : partOk 0 c = false) : chkB k a b c = false := by unfold chkB; rw [h]; simp
theorem chk_all {k : Int} {a b c : List Opc} (h1 : 1 ≤ k) (h2 : k ≤ 4) (ha : partOk k a = true) (hb : partOk 0 b = true) (hc : partOk 0 c = true) : chkB k a b c = true := by unfold chkB; rw [ha, hb, hc, decide_eq_true ⟨h1, h2⟩]; rfl
theorem and63 (b : Int64) : (b.toUInt64 &&& 63).toNat = (b &&& 63).toBitVec.toNat := by rfl
theorem and63_lt (b : Int64) : (b &&& 63).toBitVec.toNat < 64 := by
  rw [← and63, UInt64.toNat_and]
  have : b.toUInt64.toNat &&& (63 : UInt64).toNat ≤ 63 := Nat.and_le_right
  omega
theorem sar_eq (a b : Int64) : (a >>> (b &&& 63)).toInt = a.toInt / 2 ^ (b.toUInt64 &&& 63).toNat := by
  have h := and63_lt b
  rw [and63]
  generalize (b &&& 63) = c at *
  rw [← Int64.toInt_toBitVec, Int64.toBitVec_shiftRight]
  have hs : (c.toBitVec.smod 64) = c.toBitVec := by
    have h1 : c.toBitVec.msb = false := by rw [BitVec.msb_eq_decide]; simp; omega
    rw [BitVec.smod_eq, h1]
    have h2 : (64 : BitVec 64).msb = false := by decide
    rw [h2]
    simp only []
    apply BitVec.eq_of_toNat_eq
    show (c.toBitVec % 64).toNat = _
    rw [BitVec.toNat_umod]
    exact Nat.mod_eq_of_lt h
  rw [hs]
  unfold BitVec.sshiftRight'
  rw [BitVec.toInt_sshiftRight, Int.shiftRight_eq_div_pow, Int64.toInt_toBitVec]
  norm_cast
theorem i_sar (a b : Int64) : a.toInt / 2 ^ min (((b.toUInt64 &&& 63).toNat : Nat) : Int).toNat IntKind.i64.bits = (a >>> (b &&& 63)).toInt := by
  have h := and63_lt b
  rw [← and63] at h
  rw [sar_eq, Int.toNat_natCast, Nat.min_eq_left (by show _ ≤ 64; omega)]
theorem i64_inj {a b : Int64} : (a.toUInt64 = b.toUInt64) = (a = b) := by rw [eq_iff_iff]; exact ⟨fun h => by have h2 := congrArg UInt64.toInt64 h; simpa using h2, fun h => by rw [h]⟩
theorem one_less (b : Bool) : (b64 b).toInt64 = one64 b := by cases b <;> rfl
theorem one_same (a b : Int64) : decide (a.toUInt64 = b.toUInt64) = decide (a = b) := by rw [decide_eq_decide, i64_inj]
theorem b64_bit (b : Bool) : (b64 b &&& 1 = 1) = (b = true) := by cases b <;> simp [b64]
theorem zero_same (a : Int64) : (a.toUInt64 = 0) = (a = 0) := i64_inj (b := 0)
theorem pick64 (a b c : Int64) : (if b64 (decide (a.toUInt64 = 0)) &&& 1 = 1 then c.toUInt64 else b.toUInt64).toInt64 = if a = 0 then c else b := by
  simp only [b64_bit, decide_eq_true_eq, zero_same]
  split <;> simp
theorem emit_eq (q kk v al : Int64) : Rec.mk (decide (b64 (decide (al.toUInt64 = 0)) = 1)) ((if b64 (decide (al.toUInt64 = 0)) &&& 1 = 1 then 0 else kk.toUInt64).toInt64) ((if b64 (decide (al.toUInt64 = 0)) &&& 1 = 1 then 0 else v.toUInt64).toInt64) ((if b64 (decide (al.toUInt64 = 0)) &&& 1 = 1 then 0 else q.toUInt64).toInt64) = emitR q kk v al := by
  simp only [b64_bit, decide_eq_true_eq, zero_same, b64_one]
  unfold emitR
  by_cases h : al = 0 <;> simp [h]
@[reducible] def macV (Rg : List Int64) (a : Option Addr) (z c : Nat) (q : Int64) : List Value := [.int .i64 (Rg.getD 0 0).toInt, .int .i64 (Rg.getD 1 0).toInt, .int .i64 (Rg.getD 2 0).toInt, .int .i64 (Rg.getD 3 0).toInt, .int .i64 (Rg.getD 4 0).toInt, .int .i64 (Rg.getD 5 0).toInt, .int .i64 (Rg.getD 6 0).toInt, .int .i64 (Rg.getD 7 0).toInt, .slice a z c, .int .i64 q.toInt]
theorem mac_get {Rg : List Int64} {a : Option Addr} {z c : Nat} {q : Int64} {i : Nat} (h : i < 8) : (macV Rg a z c q)[0 + i * 1]? = some (.int .i64 (Rg.getD i 0).toInt) := by
  match i, h with
  | 0, _ => rfl
  | 1, _ => rfl
  | 2, _ => rfl
  | 3, _ => rfl
  | 4, _ => rfl
  | 5, _ => rfl
  | 6, _ => rfl
  | 7, _ => rfl
theorem mac_set {Rg R2 : List Int64} (hR : Rg.length = 8) {a : Option Addr} {z c : Nat} {q : Int64} {i : Nat} (h : i < 8) {v : Int64} (h2 : Rg.set i v = R2) : (macV Rg a z c q).take (0 + i * 1) ++ [.int .i64 v.toInt] ++ (macV Rg a z c q).drop (0 + i * 1 + [Value.int .i64 v.toInt].length) = macV R2 a z c q := by
  subst h2
  match Rg, hR with
  | [r0, r1, r2, r3, r4, r5, r6, r7], _ =>
    match i, h with
    | 0, _ => rfl
    | 1, _ => rfl
    | 2, _ => rfl
    | 3, _ => rfl
    | 4, _ => rfl
    | 5, _ => rfl
    | 6, _ => rfl
    | 7, _ => rfl
theorem SH.lend {w0 w : World} {D : List Nat} {A M : List Res} (h : SH w0 D (A ++ M) w) : SH w (A.flatMap Res.fp) A w := by
  have h1 : SH w0 D (M ++ A) w := h.perm List.perm_append_comm
  exact (SH.dropAll M h1).self
theorem part_c (ga : Option Addr) (gn gc : Nat) (l : List Opc) (k : Int) (w : World) (hn : l.length = gn) (hr : Rds w ga (l.flatMap opcV)) (hb : gn ≤ 1000000) : Pure Try.prog 174 #[.slice ga gn gc, .int .i64 k] w (.bool (partOk k l)) := by
 refine calls_S (n := 60) (σ0 := (upd (upd fr0 0 (.slice ga gn gc)) 1 (.int .i64 k))) (D := []) (A := []) Try.func174 rfl Try.ntmps174 rfl (a2_fr _ _) (SH.start w) ?_
 refine wpS_seq ?_
 refine wpS_region ?_
 refine s_y (v := .bool false) (y_assign rfl) rfl ?_
 refine wpL_nil ?_
 refine thenS_n ?_
 refine wpS_scope ?_
 refine wpS_seq ?_
 refine wpS_seq ?_
 refine wpS_region ?_
 refine s_y (v := .slice ga gn gc) (y_move rfl) rfl ?_
 refine s_y (v := .int .i64 ((gn : Nat) : Int)) (y_len (ty' := 0) (at_ := #[]) rfl Try.underlying82) rfl ?_
 refine s_y (v := .bool (decide ((40 : Nat) < gn))) (y_gtr (a := ((gn : Nat) : Int)) (b := 40) (c := decide ((40 : Nat) < gn)) rfl rfl (decide_eq_decide.2 (by omega))) rfl ?_
 refine wpL_nil ?_
 refine thenS_n ?_
 refine wpS_cond (t := decide ((40 : Nat) < gn)) rfl (fun b1 => ?_) (fun b1 => ?_)
 ·
  have p1 := of_decide_eq_true b1
  refine wpS_seq ?_
  refine wpS_region ?_
  refine s_y (v := .bool false) (y_assign rfl) rfl ?_
  refine wpL_nil ?_
  refine thenS_n ?_
  refine wpS_ret ?_
  refine thenS_r ?_
  refine scopeS_r ?_
  refine fin1 (v := .bool false) (.inr rfl) (.nil) Try.results174 rfl ?_
  exact fun w' hs => ⟨congrArg (fun b : Bool => Ending.returned (.bool b)) (by first | exact (part_long (by omega)).symm | exact (part_no (i := i) (by omega) (by first | exact op_no1 (by omega) | exact op_no2 (j := j) (by omega) (by omega) | exact op_no3 (by omega) (by omega))).symm), hs⟩
 ·
  have p1 := of_decide_eq_false b1
  refine wpS_skip ?_
  refine thenS_n ?_
  refine wpS_seq ?_
  refine wpS_label ?_
  refine thenS_n ?_
  refine wpS_seq ?_
  refine wpS_seq ?_
  refine wpS_region ?_
  refine s_y (v := .slice ga gn gc) (y_move rfl) rfl ?_
  refine s_y (v := .int .i64 ((gn : Nat) : Int)) (y_len (ty' := 0) (at_ := #[]) rfl Try.underlying82) rfl ?_
  refine s_y (v := .int .i64 0) (y_move rfl) rfl ?_
  refine wpL_nil ?_
  refine thenS_n ?_
  refine wpS_block ?_
  refine wpS_loop (fun mez ds σ L => ∃ i : Nat, mez = gn - i ∧ (i ≤ gn) ∧ ((l.take i).all (opOk k) = true) ∧ ds = [] ∧ σ 1 = .int .i64 k ∧ σ 12 = .slice ga gn gc ∧ σ 13 = .int .i64 ((gn : Nat) : Int) ∧ σ 14 = .int .i64 ((i : Nat) : Int) ∧ Ent L []) (m0 := gn - 0) ⟨0, rfl, by omega, by simp, rfl, rfl, rfl, rfl, rfl, .nil⟩ ?_
  rintro mez ds σ L ⟨i, hm_2, hf0_2, hf1_2, rfl, h1_2, h12_2, h13_2, h14_2, hE_2⟩
  refine wpS_ent hE_2 ?_; clear hE_2
  refine wpS_seq ?_
  refine wpS_region ?_
  refine s_y (v := .bool (decide (i < gn))) (y_lss (a := ((i : Nat) : Int)) (b := ((gn : Nat) : Int)) (c := decide (i < gn)) h14_2 h13_2 (decide_eq_decide.2 (by omega))) rfl ?_
  refine wpL_nil ?_
  refine thenS_n ?_
  refine wpS_seq ?_
  refine wpS_cond (t := decide (i < gn)) rfl (fun b3 => ?_) (fun b3 => ?_)
  ·
   have p3 := of_decide_eq_true b3
   refine wpS_skip ?_
   refine thenS_n ?_
   refine wpS_seq ?_
   refine wpS_block ?_
   refine wpS_seq ?_
   refine wpS_region ?_
   refine s_y (v := .pointer (some ⟨aB ga, aO ga + i * 6, none⟩)) (y_idx (o := i * 6) h12_2 h14_2 Try.underlying82 Try.sizeOf86 (oldR hr) ((fl_len opcV_len _).trans (by first | omega | (simp only [List.length_set, List.length_take, List.length_drop]; done) | (simp only [List.length_set, List.length_take, List.length_drop]; omega))) (by decide) (by omega) (by omega) (by omega)) rfl ?_
   refine s_y (v := .agg #[.int .i64 ((l.getD i default).o0), .int .i64 ((l.getD i default).o1), .int .i64 ((l.getD i default).o2), .int .i64 ((l.getD i default).o3), .int .i64 ((l.getD i default).o4), .int .i64 (((l.getD i default).o5).toInt)]) (y_loadN (vs := opcV (l.getD i default)) rfl Try.isAgg86 Try.sizeOf86 (rdN (oldR hr) (fl_getN opcV_len l i (by first | omega | (simp only [List.length_set, List.length_take, List.length_drop]; done) | (simp only [List.length_set, List.length_take, List.length_drop]; omega))))) rfl ?_
   refine s_e rfl ?_
   refine e_alloc (l := [.int .i64 0, .int .i64 0, .int .i64 0, .int .i64 0, .int .i64 0, .int .i64 0]) Try.zeroValue86 rfl ?_
   intro b_4
   refine s_e0 ?_
   refine e_store (vs := [.int .i64 ((l.getD i default).o0), .int .i64 ((l.getD i default).o1), .int .i64 ((l.getD i default).o2), .int .i64 ((l.getD i default).o3), .int .i64 ((l.getD i default).o4), .int .i64 (((l.getD i default).o5).toInt)]) (l' := [.int .i64 ((l.getD i default).o0), .int .i64 ((l.getD i default).o1), .int .i64 ((l.getD i default).o2), .int .i64 ((l.getD i default).o3), .int .i64 ((l.getD i default).o4), .int .i64 (((l.getD i default).o5).toInt)]) rfl rfl rfl rfl Try.sizeOf86 .h (Nat.le_of_ble_eq_true rfl) rfl ?_
   refine wpL_nil ?_
   refine thenS_n ?_
   refine wpS_seq ?_
   refine wpS_seq ?_
   refine wpS_region ?_
   refine s_y (v := .pointer (some ⟨b_4, 0, none⟩)) (y_fieldAddr (o' := 0) rfl Try.underlying86 rfl Try.sizeOf3 (by decide) rfl) rfl ?_
   refine s_y (v := .int .i64 ((l.getD i default).o0)) (y_load1 rfl Try.isAgg3 (own1 .h rfl)) rfl ?_
   refine s_y (v := .bool (decide (((l.getD i default).o0 : Int) < 1))) (y_lss (a := (l.getD i default).o0) (b := 1) rfl rfl rfl) rfl ?_
   refine s_y (v := .bool (decide (((l.getD i default).o0 : Int) < 1))) (y_move rfl) rfl ?_
   rcases Bool.eq_false_or_eq_true (decide (((l.getD i default).o0 : Int) < 1)) with b5 | b5
   ·
    have p5 := of_decide_eq_true b5
    refine s_no rfl rfl rfl rfl (b' := decide (((l.getD i default).o0 : Int) < 1)) rfl b5 ?_
    refine s_no rfl rfl rfl rfl (b' := decide (((l.getD i default).o0 : Int) < 1)) rfl b5 ?_
    refine s_no rfl rfl rfl rfl (b' := decide (((l.getD i default).o0 : Int) < 1)) rfl b5 ?_
    refine s_y (v := .bool true) (y_pickT (b := decide (((l.getD i default).o0 : Int) < 1)) rfl b5 rfl) rfl ?_
    refine wpL_nil ?_
    refine thenS_n ?_
    refine wpS_cond_t rfl ?_
    refine wpS_seq ?_
    refine wpS_region ?_
    refine s_y (v := .bool false) (y_assign rfl) rfl ?_
    refine wpL_nil ?_
    refine thenS_n ?_
    refine wpS_ret ?_
    refine thenS_r ?_
    refine blockS_r ?_
    refine thenS_r ?_
    refine thenS_r ?_
    refine blockS_r ?_
    refine thenS_r ?_
    refine scopeS_r ?_
    refine fin1 (v := .bool false) (.inr rfl) (.nil) Try.results174 rfl ?_
    exact fun w' hs => ⟨congrArg (fun b : Bool => Ending.returned (.bool b)) (by first | exact (part_long (by omega)).symm | exact (part_no (i := i) (by omega) (by first | exact op_no1 (by omega) | exact op_no2 (j := j) (by omega) (by omega) | exact op_no3 (by omega) (by omega))).symm), hs⟩
   ·
    have p5 := of_decide_eq_false b5
    refine s_gy (y_fieldAddr (o' := 0) rfl Try.underlying86 rfl Try.sizeOf3 (by decide) rfl) rfl rfl rfl rfl (b' := decide (((l.getD i default).o0 : Int) < 1)) rfl b5 ?_
    refine s_gy (y_load1 rfl Try.isAgg3 (own1 .h rfl)) rfl rfl rfl rfl (b' := decide (((l.getD i default).o0 : Int) < 1)) rfl b5 ?_
    refine s_gy (y_gtr (a := (l.getD i default).o0) (b := 12) rfl rfl rfl) rfl rfl rfl rfl (b' := decide (((l.getD i default).o0 : Int) < 1)) rfl b5 ?_
    refine s_y (v := .bool (decide ((12 : Int) < ((l.getD i default).o0)))) (y_pickF (b := decide (((l.getD i default).o0 : Int) < 1)) rfl b5 rfl) rfl ?_
    refine wpL_nil ?_
    refine thenS_n ?_
    refine wpS_cond (t := decide ((12 : Int) < ((l.getD i default).o0))) rfl (fun b6 => ?_) (fun b6 => ?_)
    ·
     have p6 := of_decide_eq_true b6
     refine wpS_seq ?_
     refine wpS_region ?_
     refine s_y (v := .bool false) (y_assign rfl) rfl ?_
     refine wpL_nil ?_
     refine thenS_n ?_
     refine wpS_ret ?_
     refine thenS_r ?_
     refine blockS_r ?_
     refine thenS_r ?_
     refine thenS_r ?_
     refine blockS_r ?_
     refine thenS_r ?_
     refine scopeS_r ?_
     refine fin1 (v := .bool false) (.inr rfl) (.nil) Try.results174 rfl ?_
     exact fun w' hs => ⟨congrArg (fun b : Bool => Ending.returned (.bool b)) (by first | exact (part_long (by omega)).symm | exact (part_no (i := i) (by omega) (by first | exact op_no1 (by omega) | exact op_no2 (j := j) (by omega) (by omega) | exact op_no3 (by omega) (by omega))).symm), hs⟩
    ·
     have p6 := of_decide_eq_false b6
     refine wpS_skip ?_
     refine thenS_n ?_
     refine wpS_seq ?_
     refine wpS_seq ?_
     refine wpS_region ?_
     refine s_y (v := .pointer (some ⟨b_4, 1, none⟩)) (y_fieldAddr (o' := 1) rfl Try.underlying86 rfl Try.sizeOf3 (by decide) rfl) rfl ?_
     refine s_y (v := .int .i64 ((l.getD i default).o1)) (y_load1 rfl Try.isAgg3 (own1 .h rfl)) rfl ?_
     refine s_y (v := .pointer (some ⟨b_4, 2, none⟩)) (y_fieldAddr (o' := 2) rfl Try.underlying86 rfl Try.sizeOf3 (by decide) rfl) rfl ?_
     refine s_y (v := .int .i64 ((l.getD i default).o2)) (y_load1 rfl Try.isAgg3 (own1 .h rfl)) rfl ?_
     refine s_y (v := .pointer (some ⟨b_4, 3, none⟩)) (y_fieldAddr (o' := 3) rfl Try.underlying86 rfl Try.sizeOf3 (by decide) rfl) rfl ?_
     refine s_y (v := .int .i64 ((l.getD i default).o3)) (y_load1 rfl Try.isAgg3 (own1 .h rfl)) rfl ?_
     refine s_y (v := .pointer (some ⟨b_4, 4, none⟩)) (y_fieldAddr (o' := 4) rfl Try.underlying86 rfl Try.sizeOf3 (by decide) rfl) rfl ?_
     refine s_y (v := .int .i64 ((l.getD i default).o4)) (y_load1 rfl Try.isAgg3 (own1 .h rfl)) rfl ?_
     refine s_e rfl ?_
     refine e_bsliceL (e := 3) (m := [(0, .int .i64 ((l.getD i default).o1)), (1, .int .i64 ((l.getD i default).o2)), (2, .int .i64 ((l.getD i default).o3)), (3, .int .i64 ((l.getD i default).o4))]) (l := [.int .i64 ((l.getD i default).o1), .int .i64 ((l.getD i default).o2), .int .i64 ((l.getD i default).o3), .int .i64 ((l.getD i default).o4)]) (evc rfl (evc rfl (evc rfl (evc rfl evn)))) (fun w => by kernel_rfl) ?_
     intro b_7
     refine s_y (v := .int .i64 4) (y_len (ty' := 0) (at_ := #[]) rfl Try.underlying39) rfl ?_
     refine s_y (v := .int .i64 0) (y_move rfl) rfl ?_
     refine wpL_nil ?_
     refine thenS_n ?_
     refine wpS_block ?_
     refine wpS_loop (fun mez ds σ L => ∃ j : Nat, mez = 4 - j ∧ (j ≤ 4) ∧ ((([(l.getD i default).o1, (l.getD i default).o2, (l.getD i default).o3, (l.getD i default).o4] : List Int).take j).all rOk = true) ∧ ds = [] ∧ σ 1 = .int .i64 k ∧ σ 6 = .pointer (some ⟨b_4, 0, none⟩) ∧ σ 12 = .slice ga gn gc ∧ σ 13 = .int .i64 ((gn : Nat) : Int) ∧ σ 14 = .int .i64 ((i : Nat) : Int) ∧ σ 22 = .pointer (some ⟨b_4, 0, none⟩) ∧ σ 23 = .int .i64 ((l.getD i default).o0) ∧ σ 24 = .bool (decide ((12 : Int) < ((l.getD i default).o0))) ∧ σ 34 = .slice (some ⟨b_7, 0, none⟩) 4 4 ∧ σ 35 = .int .i64 4 ∧ σ 36 = .int .i64 ((j : Nat) : Int) ∧ Ent L [cel b_7 3 [.int .i64 ((l.getD i default).o1), .int .i64 ((l.getD i default).o2), .int .i64 ((l.getD i default).o3), .int .i64 ((l.getD i default).o4)], cel b_4 86 [.int .i64 ((l.getD i default).o0), .int .i64 ((l.getD i default).o1), .int .i64 ((l.getD i default).o2), .int .i64 ((l.getD i default).o3), .int .i64 ((l.getD i default).o4), .int .i64 (((l.getD i default).o5).toInt)]]) (m0 := 4 - 0) ⟨0, rfl, by omega, by simp, rfl, h1_2, rfl, h12_2, h13_2, h14_2, rfl, rfl, rfl, rfl, rfl, rfl, .p .h (.p .h .nil)⟩ ?_
     rintro mez ds σ L ⟨j, hm_8, hf0_8, hf1_8, rfl, h1_8, h6_8, h12_8, h13_8, h14_8, h22_8, h23_8, h24_8, h34_8, h35_8, h36_8, hE_8⟩
     refine wpS_ent hE_8 ?_; clear hE_8
     refine wpS_seq ?_
     refine wpS_region ?_
     refine s_y (v := .bool (decide ((j : Nat) < 4))) (y_lss (a := ((j : Nat) : Int)) (b := 4) (c := decide ((j : Nat) < 4)) h36_8 h35_8 (decide_eq_decide.2 (by omega))) rfl ?_
     refine wpL_nil ?_
     refine thenS_n ?_
     refine wpS_seq ?_
     refine wpS_cond (t := decide ((j : Nat) < 4)) rfl (fun b9 => ?_) (fun b9 => ?_)
     ·
      have p9 := of_decide_eq_true b9
      refine wpS_skip ?_
      refine thenS_n ?_
      refine wpS_seq ?_
      refine wpS_block ?_
      refine wpS_seq ?_
      refine wpS_region ?_
      refine s_y (v := .pointer (some ⟨aB (some ⟨b_7, 0, none⟩), aO (some ⟨b_7, 0, none⟩) + j * 1, none⟩)) (y_idx (o := j * 1) h34_8 h36_8 Try.underlying39 Try.sizeOf3 (fun w hs => (show Rds w _ ([(l.getD i default).o1, (l.getD i default).o2, (l.getD i default).o3, (l.getD i default).o4].flatMap intV) from celR .h w hs)) (fl_len intV_len _) (by decide) (by omega) (by omega) (by omega)) rfl ?_
      refine s_y (v := .int .i64 (([(l.getD i default).o1, (l.getD i default).o2, (l.getD i default).o3, (l.getD i default).o4]).getD j default)) (y_load1 rfl Try.isAgg3 (rd1 (k := j * 1) (fun w hs => (show Rds w _ ([(l.getD i default).o1, (l.getD i default).o2, (l.getD i default).o3, (l.getD i default).o4].flatMap intV) from celR .h w hs)) (fl_get0 intV_len ([(l.getD i default).o1, (l.getD i default).o2, (l.getD i default).o3, (l.getD i default).o4]) j (by show _ < 4; omega) rfl))) rfl ?_
      refine s_y (v := .int .i64 (([(l.getD i default).o1, (l.getD i default).o2, (l.getD i default).o3, (l.getD i default).o4]).getD j default)) (y_assign rfl) rfl ?_
      refine wpL_nil ?_
      refine thenS_n ?_
      refine wpS_seq ?_
      refine wpS_region ?_
      refine s_y (v := .int .i64 (([(l.getD i default).o1, (l.getD i default).o2, (l.getD i default).o3, (l.getD i default).o4]).getD j default)) (y_move rfl) rfl ?_
      refine s_y (v := .bool (decide (((([(l.getD i default).o1, (l.getD i default).o2, (l.getD i default).o3, (l.getD i default).o4]).getD j default) : Int) < 0))) (y_lss (a := (([(l.getD i default).o1, (l.getD i default).o2, (l.getD i default).o3, (l.getD i default).o4]).getD j default)) (b := 0) rfl rfl rfl) rfl ?_
      refine s_y (v := .bool (decide (((([(l.getD i default).o1, (l.getD i default).o2, (l.getD i default).o3, (l.getD i default).o4]).getD j default) : Int) < 0))) (y_move rfl) rfl ?_
      rcases Bool.eq_false_or_eq_true (decide (((([(l.getD i default).o1, (l.getD i default).o2, (l.getD i default).o3, (l.getD i default).o4]).getD j default) : Int) < 0)) with b10 | b10
      ·
       have p10 := of_decide_eq_true b10
       refine s_no rfl rfl rfl rfl (b' := decide (((([(l.getD i default).o1, (l.getD i default).o2, (l.getD i default).o3, (l.getD i default).o4]).getD j default) : Int) < 0)) rfl b10 ?_
       refine s_no rfl rfl rfl rfl (b' := decide (((([(l.getD i default).o1, (l.getD i default).o2, (l.getD i default).o3, (l.getD i default).o4]).getD j default) : Int) < 0)) rfl b10 ?_
       refine s_y (v := .bool true) (y_pickT (b := decide (((([(l.getD i default).o1, (l.getD i default).o2, (l.getD i default).o3, (l.getD i default).o4]).getD j default) : Int) < 0)) rfl b10 rfl) rfl ?_
       refine wpL_nil ?_
       refine thenS_n ?_
       refine wpS_cond_t rfl ?_
       refine wpS_seq ?_
       refine wpS_region ?_
       refine s_y (v := .bool false) (y_assign rfl) rfl ?_
       refine wpL_nil ?_
       refine thenS_n ?_
       refine wpS_ret ?_
       refine blockS_r ?_
       refine thenS_r ?_
       refine thenS_r ?_
       refine blockS_r ?_
       refine thenS_r ?_
       refine blockS_r ?_
       refine thenS_r ?_
       refine thenS_r ?_
       refine blockS_r ?_
       refine thenS_r ?_
       refine scopeS_r ?_
       refine fin1 (v := .bool false) (.inr rfl) (.nil) Try.results174 rfl ?_
       exact fun w' hs => ⟨congrArg (fun b : Bool => Ending.returned (.bool b)) (by first | exact (part_long (by omega)).symm | exact (part_no (i := i) (by omega) (by first | exact op_no1 (by omega) | exact op_no2 (j := j) (by omega) (by omega) | exact op_no3 (by omega) (by omega))).symm), hs⟩
      ·
       have p10 := of_decide_eq_false b10
       refine s_gy (y_move rfl) rfl rfl rfl rfl (b' := decide (((([(l.getD i default).o1, (l.getD i default).o2, (l.getD i default).o3, (l.getD i default).o4]).getD j default) : Int) < 0)) rfl b10 ?_
       refine s_gy (y_geq (a := (([(l.getD i default).o1, (l.getD i default).o2, (l.getD i default).o3, (l.getD i default).o4]).getD j default)) (b := 8) rfl rfl rfl) rfl rfl rfl rfl (b' := decide (((([(l.getD i default).o1, (l.getD i default).o2, (l.getD i default).o3, (l.getD i default).o4]).getD j default) : Int) < 0)) rfl b10 ?_
       refine s_y (v := .bool (decide ((8 : Int) ≤ (([(l.getD i default).o1, (l.getD i default).o2, (l.getD i default).o3, (l.getD i default).o4]).getD j default)))) (y_pickF (b := decide (((([(l.getD i default).o1, (l.getD i default).o2, (l.getD i default).o3, (l.getD i default).o4]).getD j default) : Int) < 0)) rfl b10 rfl) rfl ?_
       refine wpL_nil ?_
       refine thenS_n ?_
       refine wpS_cond (t := decide ((8 : Int) ≤ (([(l.getD i default).o1, (l.getD i default).o2, (l.getD i default).o3, (l.getD i default).o4]).getD j default))) rfl (fun b11 => ?_) (fun b11 => ?_)
       ·
        have p11 := of_decide_eq_true b11
        refine wpS_seq ?_
        refine wpS_region ?_
        refine s_y (v := .bool false) (y_assign rfl) rfl ?_
        refine wpL_nil ?_
        refine thenS_n ?_
        refine wpS_ret ?_
        refine blockS_r ?_
        refine thenS_r ?_
        refine thenS_r ?_
        refine blockS_r ?_
        refine thenS_r ?_
        refine blockS_r ?_
        refine thenS_r ?_
        refine thenS_r ?_
        refine blockS_r ?_
        refine thenS_r ?_
        refine scopeS_r ?_
        refine fin1 (v := .bool false) (.inr rfl) (.nil) Try.results174 rfl ?_
        exact fun w' hs => ⟨congrArg (fun b : Bool => Ending.returned (.bool b)) (by first | exact (part_long (by omega)).symm | exact (part_no (i := i) (by omega) (by first | exact op_no1 (by omega) | exact op_no2 (j := j) (by omega) (by omega) | exact op_no3 (by omega) (by omega))).symm), hs⟩
       ·
        have p11 := of_decide_eq_false b11
        refine wpS_skip ?_
        refine blockS_n ?_
        refine thenS_n ?_
        refine wpS_region ?_
        refine s_y (v := .int .i64 (((j + 1) : Nat) : Int)) (y_add (a := ((j : Nat) : Int)) (b := 1) h36_8 rfl (wI (by omega) (by omega) (by omega))) rfl ?_
        refine s_y (v := .int .i64 (((j + 1) : Nat) : Int)) (y_move rfl) rfl ?_
        refine wpL_nil ?_
        refine thenS_n ?_
        exact ⟨_, by omega, ⟨(j + 1), rfl, by omega, (all_step (by show _ < 4; omega) (by assumption) (decide_eq_true (by omega))), rfl, h1_8, h6_8, h12_8, h13_8, h14_8, h22_8, h23_8, h24_8, h34_8, h35_8, rfl, .p .h (.p .h .nil)⟩⟩
     ·
      have p9 := of_decide_eq_false b9
      refine wpS_exit ?_
      refine thenS_x ?_
      refine thenS_x ?_
      refine blockS_h ?_
      refine thenS_n ?_
      refine wpS_seq ?_
      refine wpS_seq ?_
      refine wpS_region ?_
      refine s_y (v := .pointer (some ⟨b_4, 0, none⟩)) (y_fieldAddr (o' := 0) h6_8 Try.underlying86 rfl Try.sizeOf3 (by decide) rfl) rfl ?_
      refine s_y (v := .int .i64 ((l.getD i default).o0)) (y_load1 rfl Try.isAgg3 (own1 (.t .h) rfl)) rfl ?_
      refine s_y (v := .bool (decide (((l.getD i default).o0 : Int) ≠ 12))) (y_neq (a := (l.getD i default).o0) (b := 12) rfl rfl rfl) rfl ?_
      refine wpL_nil ?_
      refine thenS_n ?_
      refine wpS_cond (t := decide (((l.getD i default).o0 : Int) ≠ 12)) rfl (fun b12 => ?_) (fun b12 => ?_)
      ·
       have p12 := of_decide_eq_true b12
       refine wpS_exit ?_
       refine thenS_x ?_
       refine blockS_h ?_
       refine thenS_n ?_
       refine wpS_region ?_
       refine s_y (v := .int .i64 (((i + 1) : Nat) : Int)) (y_add (a := ((i : Nat) : Int)) (b := 1) h14_8 rfl (wI (by omega) (by omega) (by omega))) rfl ?_
       refine s_y (v := .int .i64 (((i + 1) : Nat) : Int)) (y_move rfl) rfl ?_
       refine wpL_nil ?_
       refine thenS_n ?_
       exact ⟨_, by omega, ⟨(i + 1), rfl, by omega, (all_step (by omega) (by assumption) (op_yes (j := j) (by omega) (by omega) (by omega) (by assumption) (by omega))), rfl, h1_8, h12_8, h13_8, rfl, .nil⟩⟩
      ·
       have p12 := of_decide_eq_false b12
       refine wpS_skip ?_
       refine thenS_n ?_
       refine wpS_seq ?_
       refine wpS_region ?_
       refine s_y (v := .pointer (some ⟨b_4, 5, none⟩)) (y_fieldAddr (o' := 5) h6_8 Try.underlying86 rfl Try.sizeOf2 (by decide) rfl) rfl ?_
       refine s_y (v := .int .i64 (((l.getD i default).o5).toInt)) (y_load1 rfl Try.isAgg2 (own1 (.t .h) rfl)) rfl ?_
       refine s_y (v := .bool (decide ((((l.getD i default).o5).toInt : Int) < 0))) (y_lss (a := ((l.getD i default).o5).toInt) (b := 0) rfl rfl rfl) rfl ?_
       refine s_y (v := .bool (decide ((((l.getD i default).o5).toInt : Int) < 0))) (y_move rfl) rfl ?_
       rcases Bool.eq_false_or_eq_true (decide ((((l.getD i default).o5).toInt : Int) < 0)) with b13 | b13
       ·
        have p13 := of_decide_eq_true b13
        refine s_no rfl rfl rfl rfl (b' := decide ((((l.getD i default).o5).toInt : Int) < 0)) rfl b13 ?_
        refine s_no rfl rfl rfl rfl (b' := decide ((((l.getD i default).o5).toInt : Int) < 0)) rfl b13 ?_
        refine s_no rfl rfl rfl rfl (b' := decide ((((l.getD i default).o5).toInt : Int) < 0)) rfl b13 ?_
        refine s_no rfl rfl rfl rfl (b' := decide ((((l.getD i default).o5).toInt : Int) < 0)) rfl b13 ?_
        refine s_y (v := .bool true) (y_pickT (b := decide ((((l.getD i default).o5).toInt : Int) < 0)) rfl b13 rfl) rfl ?_
        refine wpL_nil ?_
        refine thenS_n ?_
        refine wpS_cond_t rfl ?_
        refine wpS_seq ?_
        refine wpS_region ?_
        refine s_y (v := .bool false) (y_assign rfl) rfl ?_
        refine wpL_nil ?_
        refine thenS_n ?_
        refine wpS_ret ?_
        refine blockS_r ?_
        refine thenS_r ?_
        refine thenS_r ?_
        refine blockS_r ?_
        refine thenS_r ?_
        refine scopeS_r ?_
        refine fin1 (v := .bool false) (.inr rfl) (.nil) Try.results174 rfl ?_
        exact fun w' hs => ⟨congrArg (fun b : Bool => Ending.returned (.bool b)) (by first | exact (part_long (by omega)).symm | exact (part_no (i := i) (by omega) (by first | exact op_no1 (by omega) | exact op_no2 (j := j) (by omega) (by omega) | exact op_no3 (by omega) (by omega))).symm), hs⟩
       ·
        have p13 := of_decide_eq_false b13
        refine s_gy (y_fieldAddr (o' := 5) h6_8 Try.underlying86 rfl Try.sizeOf2 (by decide) rfl) rfl rfl rfl rfl (b' := decide ((((l.getD i default).o5).toInt : Int) < 0)) rfl b13 ?_
        refine s_gy (y_load1 rfl Try.isAgg2 (own1 (.t .h) rfl)) rfl rfl rfl rfl (b' := decide ((((l.getD i default).o5).toInt : Int) < 0)) rfl b13 ?_
        refine s_gy (y_move h1_8) rfl rfl rfl rfl (b' := decide ((((l.getD i default).o5).toInt : Int) < 0)) rfl b13 ?_
        refine s_gy (y_geq (a := ((l.getD i default).o5).toInt) (b := k) rfl rfl rfl) rfl rfl rfl rfl (b' := decide ((((l.getD i default).o5).toInt : Int) < 0)) rfl b13 ?_
        refine s_y (v := .bool (decide ((k : Int) ≤ (((l.getD i default).o5).toInt)))) (y_pickF (b := decide ((((l.getD i default).o5).toInt : Int) < 0)) rfl b13 rfl) rfl ?_
        refine wpL_nil ?_
        refine thenS_n ?_
        refine wpS_cond (t := decide ((k : Int) ≤ (((l.getD i default).o5).toInt))) rfl (fun b14 => ?_) (fun b14 => ?_)
        ·
         have p14 := of_decide_eq_true b14
         refine wpS_seq ?_
         refine wpS_region ?_
         refine s_y (v := .bool false) (y_assign rfl) rfl ?_
         refine wpL_nil ?_
         refine thenS_n ?_
         refine wpS_ret ?_
         refine blockS_r ?_
         refine thenS_r ?_
         refine thenS_r ?_
         refine blockS_r ?_
         refine thenS_r ?_
         refine scopeS_r ?_
         refine fin1 (v := .bool false) (.inr rfl) (.nil) Try.results174 rfl ?_
         exact fun w' hs => ⟨congrArg (fun b : Bool => Ending.returned (.bool b)) (by first | exact (part_long (by omega)).symm | exact (part_no (i := i) (by omega) (by first | exact op_no1 (by omega) | exact op_no2 (j := j) (by omega) (by omega) | exact op_no3 (by omega) (by omega))).symm), hs⟩
        ·
         have p14 := of_decide_eq_false b14
         refine wpS_skip ?_
         refine blockS_n ?_
         refine thenS_n ?_
         refine wpS_region ?_
         refine s_y (v := .int .i64 (((i + 1) : Nat) : Int)) (y_add (a := ((i : Nat) : Int)) (b := 1) h14_8 rfl (wI (by omega) (by omega) (by omega))) rfl ?_
         refine s_y (v := .int .i64 (((i + 1) : Nat) : Int)) (y_move rfl) rfl ?_
         refine wpL_nil ?_
         refine thenS_n ?_
         exact ⟨_, by omega, ⟨(i + 1), rfl, by omega, (all_step (by omega) (by assumption) (op_yes (j := j) (by omega) (by omega) (by omega) (by assumption) (by omega))), rfl, h1_8, h12_8, h13_8, rfl, .nil⟩⟩
  ·
   have p3 := of_decide_eq_false b3
   refine wpS_exit ?_
   refine thenS_x ?_
   refine thenS_x ?_
   refine blockS_h ?_
   refine thenS_n ?_
   refine wpS_seq ?_
   refine wpS_region ?_
   refine s_y (v := .bool true) (y_assign rfl) rfl ?_
   refine wpL_nil ?_
   refine thenS_n ?_
   refine wpS_ret ?_
   refine scopeS_r ?_
   refine fin1 (v := .bool true) (.inr rfl) (.nil) Try.results174 rfl ?_
   exact fun w' hs => ⟨congrArg (fun b : Bool => Ending.returned (.bool b)) ((part_yes (i := i) (by omega) (by omega) (by assumption)).symm), hs⟩
theorem check_c (k : Int) (a1 a2 a3 : Option Addr) (n1 c1 n2 c2 n3 c3 : Nat) (l1 l2 l3 : List Opc) (w : World) (hn1 : l1.length = n1) (hr1 : Rds w a1 (l1.flatMap opcV)) (hb1 : n1 ≤ 1000000) (hn2 : l2.length = n2) (hr2 : Rds w a2 (l2.flatMap opcV)) (hb2 : n2 ≤ 1000000) (hn3 : l3.length = n3) (hr3 : Rds w a3 (l3.flatMap opcV)) (hb3 : n3 ≤ 1000000) : Pure Try.prog 84 #[.agg #[.int .i64 k, .slice a1 n1 c1, .slice a2 n2 c2, .slice a3 n3 c3]] w (.int .i64 (chk11 k l1 l2 l3)) := by
 refine calls_S (n := 31) (σ0 := (upd fr0 0 (.agg #[.int .i64 k, .slice a1 n1 c1, .slice a2 n2 c2, .slice a3 n3 c3]))) (D := []) (A := []) Try.func84 rfl Try.ntmps84 rfl (a1_fr _) (SH.start w) ?_
 refine wpS_seq ?_
 refine wpS_region ?_
 refine s_e rfl ?_
 refine e_box (v := .agg #[.int .i64 k, .slice a1 n1 c1, .slice a2 n2 c2, .slice a3 n3 c3]) (l := [.int .i64 k, .slice a1 n1 c1, .slice a2 n2 c2, .slice a3 n3 c3]) rfl rfl ?_
 intro b_1
 refine s_y (v := .int .i64 0) (y_assign rfl) rfl ?_
 refine wpL_nil ?_
 refine thenS_n ?_
 refine wpS_seq ?_
 refine wpS_seq ?_
 refine wpS_region ?_
 refine s_y (v := .pointer (some ⟨b_1, 0, none⟩)) (y_fieldAddr (o' := 0) rfl Try.underlying84 rfl Try.sizeOf3 (by decide) rfl) rfl ?_
 refine s_y (v := .int .i64 k) (y_load1 rfl Try.isAgg3 (own1 .h rfl)) rfl ?_
 refine s_y (v := .bool (decide ((k : Int) < 1))) (y_lss (a := k) (b := 1) rfl rfl rfl) rfl ?_
 refine s_y (v := .bool (decide ((k : Int) < 1))) (y_move rfl) rfl ?_
 rcases Bool.eq_false_or_eq_true (decide ((k : Int) < 1)) with b2 | b2
 ·
  have p2 := of_decide_eq_true b2
  refine s_no rfl rfl rfl rfl (b' := decide ((k : Int) < 1)) rfl b2 ?_
  refine s_no rfl rfl rfl rfl (b' := decide ((k : Int) < 1)) rfl b2 ?_
  refine s_no rfl rfl rfl rfl (b' := decide ((k : Int) < 1)) rfl b2 ?_
  refine s_y (v := .bool true) (y_pickT (b := decide ((k : Int) < 1)) rfl b2 rfl) rfl ?_
  refine s_y (v := .bool true) (y_move rfl) rfl ?_
  refine s_no rfl rfl rfl rfl rfl rfl ?_
  refine s_no rfl rfl rfl rfl rfl rfl ?_
  refine s_no rfl rfl rfl rfl rfl rfl ?_
  refine s_no rfl rfl rfl rfl rfl rfl ?_
  refine s_no rfl rfl rfl rfl rfl rfl ?_
  refine s_no rfl rfl rfl rfl rfl rfl ?_
  refine s_y (v := .bool true) (y_pickT rfl rfl rfl) rfl ?_
  refine s_y (v := .bool true) (y_move rfl) rfl ?_
  refine s_no rfl rfl rfl rfl rfl rfl ?_
  refine s_no rfl rfl rfl rfl rfl rfl ?_
  refine s_no rfl rfl rfl rfl rfl rfl ?_
  refine s_no rfl rfl rfl rfl rfl rfl ?_
  refine s_y (v := .bool true) (y_pickT rfl rfl rfl) rfl ?_
  refine s_y (v := .bool true) (y_move rfl) rfl ?_
  refine s_no rfl rfl rfl rfl rfl rfl ?_
  refine s_no rfl rfl rfl rfl rfl rfl ?_
  refine s_no rfl rfl rfl rfl rfl rfl ?_
  refine s_no rfl rfl rfl rfl rfl rfl ?_
  refine s_y (v := .bool true) (y_pickT rfl rfl rfl) rfl ?_
  refine wpL_nil ?_
  refine thenS_n ?_
  refine wpS_cond_t rfl ?_
  refine wpS_seq ?_
  refine wpS_region ?_
  refine s_y (v := .int .i64 8) (y_assign rfl) rfl ?_
  refine wpL_nil ?_
  refine thenS_n ?_
  refine wpS_ret ?_
  refine thenS_r ?_
  refine fin1 (v := .int .i64 8) (.inr rfl) (.nil) Try.results84 rfl ?_
  exact fun w' hs => ⟨congrArg (fun z : Int => Ending.returned (.int .i64 z)) ((chk_8 (by first | exact chk_n0 (by omega) | exact chk_n1 (by assumption) | exact chk_n2 (by assumption) | exact chk_n3 (by assumption))).symm), hs⟩
 ·
  have p2 := of_decide_eq_false b2
  refine s_gy (y_fieldAddr (o' := 0) rfl Try.underlying84 rfl Try.sizeOf3 (by decide) rfl) rfl rfl rfl rfl (b' := decide ((k : Int) < 1)) rfl b2 ?_
  refine s_gy (y_load1 rfl Try.isAgg3 (own1 .h rfl)) rfl rfl rfl rfl (b' := decide ((k : Int) < 1)) rfl b2 ?_
  refine s_gy (y_gtr (a := k) (b := 4) rfl rfl rfl) rfl rfl rfl rfl (b' := decide ((k : Int) < 1)) rfl b2 ?_
  refine s_y (v := .bool (decide ((4 : Int) < k))) (y_pickF (b := decide ((k : Int) < 1)) rfl b2 rfl) rfl ?_
  refine s_y (v := .bool (decide ((4 : Int) < k))) (y_move rfl) rfl ?_
  rcases Bool.eq_false_or_eq_true (decide ((4 : Int) < k)) with b3 | b3
  ·
   have p3 := of_decide_eq_true b3
   refine s_no rfl rfl rfl rfl (b' := decide ((4 : Int) < k)) rfl b3 ?_
   refine s_no rfl rfl rfl rfl (b' := decide ((4 : Int) < k)) rfl b3 ?_
   refine s_no rfl rfl rfl rfl (b' := decide ((4 : Int) < k)) rfl b3 ?_
   refine s_no rfl rfl rfl rfl (b' := decide ((4 : Int) < k)) rfl b3 ?_
   refine s_no rfl rfl rfl rfl (b' := decide ((4 : Int) < k)) rfl b3 ?_
   refine s_no rfl rfl rfl rfl (b' := decide ((4 : Int) < k)) rfl b3 ?_
   refine s_y (v := .bool true) (y_pickT (b := decide ((4 : Int) < k)) rfl b3 rfl) rfl ?_
   refine s_y (v := .bool true) (y_move rfl) rfl ?_
   refine s_no rfl rfl rfl rfl rfl rfl ?_
   refine s_no rfl rfl rfl rfl rfl rfl ?_
   refine s_no rfl rfl rfl rfl rfl rfl ?_
   refine s_no rfl rfl rfl rfl rfl rfl ?_
   refine s_y (v := .bool true) (y_pickT rfl rfl rfl) rfl ?_
   refine s_y (v := .bool true) (y_move rfl) rfl ?_
   refine s_no rfl rfl rfl rfl rfl rfl ?_
   refine s_no rfl rfl rfl rfl rfl rfl ?_
   refine s_no rfl rfl rfl rfl rfl rfl ?_
   refine s_no rfl rfl rfl rfl rfl rfl ?_
   refine s_y (v := .bool true) (y_pickT rfl rfl rfl) rfl ?_
   refine wpL_nil ?_
   refine thenS_n ?_
   refine wpS_cond_t rfl ?_
   refine wpS_seq ?_
   refine wpS_region ?_
   refine s_y (v := .int .i64 8) (y_assign rfl) rfl ?_
   refine wpL_nil ?_
   refine thenS_n ?_
   refine wpS_ret ?_
   refine thenS_r ?_
   refine fin1 (v := .int .i64 8) (.inr rfl) (.nil) Try.results84 rfl ?_
   exact fun w' hs => ⟨congrArg (fun z : Int => Ending.returned (.int .i64 z)) ((chk_8 (by first | exact chk_n0 (by omega) | exact chk_n1 (by assumption) | exact chk_n2 (by assumption) | exact chk_n3 (by assumption))).symm), hs⟩
  ·
   have p3 := of_decide_eq_false b3
   refine s_gy (y_fieldAddr (o' := 1) rfl Try.underlying84 rfl Try.sizeOf82 (by decide) rfl) rfl rfl rfl rfl (b' := decide ((4 : Int) < k)) rfl b3 ?_
   refine s_gy (y_load1 rfl Try.isAgg82 (own1 .h rfl)) rfl rfl rfl rfl (b' := decide ((4 : Int) < k)) rfl b3 ?_
   refine s_gy (y_fieldAddr (o' := 0) rfl Try.underlying84 rfl Try.sizeOf3 (by decide) rfl) rfl rfl rfl rfl (b' := decide ((4 : Int) < k)) rfl b3 ?_
   refine s_gy (y_load1 rfl Try.isAgg3 (own1 .h rfl)) rfl rfl rfl rfl (b' := decide ((4 : Int) < k)) rfl b3 ?_
   refine s_gy (y_call (args := #[.slice a1 n1 c1, .int .i64 k]) (v := .bool (partOk k l1)) Try.call174 (ev2 rfl rfl) (fun w hs => part_c a1 n1 c1 l1 k w hn1 ((oldR hr1) w hs) (by omega))) rfl rfl rfl rfl (b' := decide ((4 : Int) < k)) rfl b3 ?_
   refine s_gy (y_not (b := partOk k l1) rfl) rfl rfl rfl rfl (b' := decide ((4 : Int) < k)) rfl b3 ?_
   refine s_y (v := .bool (!(partOk k l1))) (y_pickF (b := decide ((4 : Int) < k)) rfl b3 rfl) rfl ?_
   refine s_y (v := .bool (!(partOk k l1))) (y_move rfl) rfl ?_
   rcases Bool.eq_false_or_eq_true (!(partOk k l1)) with b4 | b4
   ·
    have b5 : (partOk k l1) = false := by simpa using b4
    refine s_no rfl rfl rfl rfl (b' := !(partOk k l1)) rfl b4 ?_
    refine s_no rfl rfl rfl rfl (b' := !(partOk k l1)) rfl b4 ?_
    refine s_no rfl rfl rfl rfl (b' := !(partOk k l1)) rfl b4 ?_
    refine s_no rfl rfl rfl rfl (b' := !(partOk k l1)) rfl b4 ?_
    refine s_y (v := .bool true) (y_pickT (b := !(partOk k l1)) rfl b4 rfl) rfl ?_
    refine s_y (v := .bool true) (y_move rfl) rfl ?_
    refine s_no rfl rfl rfl rfl rfl rfl ?_
    refine s_no rfl rfl rfl rfl rfl rfl ?_
    refine s_no rfl rfl rfl rfl rfl rfl ?_
    refine s_no rfl rfl rfl rfl rfl rfl ?_
    refine s_y (v := .bool true) (y_pickT rfl rfl rfl) rfl ?_
    refine wpL_nil ?_
    refine thenS_n ?_
    refine wpS_cond_t rfl ?_
    refine wpS_seq ?_
    refine wpS_region ?_
    refine s_y (v := .int .i64 8) (y_assign rfl) rfl ?_
    refine wpL_nil ?_
    refine thenS_n ?_
    refine wpS_ret ?_
    refine thenS_r ?_
    refine fin1 (v := .int .i64 8) (.inr rfl) (.nil) Try.results84 rfl ?_
    exact fun w' hs => ⟨congrArg (fun z : Int => Ending.returned (.int .i64 z)) ((chk_8 (by first | exact chk_n0 (by omega) | exact chk_n1 (by assumption) | exact chk_n2 (by assumption) | exact chk_n3 (by assumption))).symm), hs⟩
   ·
    have b6 : (partOk k l1) = true := by simpa using b4
    refine s_gy (y_fieldAddr (o' := 2) rfl Try.underlying84 rfl Try.sizeOf82 (by decide) rfl) rfl rfl rfl rfl (b' := !(partOk k l1)) rfl b4 ?_
    refine s_gy (y_load1 rfl Try.isAgg82 (own1 .h rfl)) rfl rfl rfl rfl (b' := !(partOk k l1)) rfl b4 ?_
    refine s_gy (y_call (args := #[.slice a2 n2 c2, .int .i64 0]) (v := .bool (partOk 0 l2)) Try.call174 (ev2 rfl rfl) (fun w hs => part_c a2 n2 c2 l2 0 w hn2 ((oldR hr2) w hs) (by omega))) rfl rfl rfl rfl (b' := !(partOk k l1)) rfl b4 ?_
    refine s_gy (y_not (b := partOk 0 l2) rfl) rfl rfl rfl rfl (b' := !(partOk k l1)) rfl b4 ?_
    refine s_y (v := .bool (!(partOk 0 l2))) (y_pickF (b := !(partOk k l1)) rfl b4 rfl) rfl ?_
    refine s_y (v := .bool (!(partOk 0 l2))) (y_move rfl) rfl ?_
    rcases Bool.eq_false_or_eq_true (!(partOk 0 l2)) with b7 | b7
    ·
     have b8 : (partOk 0 l2) = false := by simpa using b7
     refine s_no rfl rfl rfl rfl (b' := !(partOk 0 l2)) rfl b7 ?_
     refine s_no rfl rfl rfl rfl (b' := !(partOk 0 l2)) rfl b7 ?_
     refine s_no rfl rfl rfl rfl (b' := !(partOk 0 l2)) rfl b7 ?_
     refine s_no rfl rfl rfl rfl (b' := !(partOk 0 l2)) rfl b7 ?_
     refine s_y (v := .bool true) (y_pickT (b := !(partOk 0 l2)) rfl b7 rfl) rfl ?_
     refine wpL_nil ?_
     refine thenS_n ?_
     refine wpS_cond_t rfl ?_
     refine wpS_seq ?_
     refine wpS_region ?_
     refine s_y (v := .int .i64 8) (y_assign rfl) rfl ?_
     refine wpL_nil ?_
     refine thenS_n ?_
     refine wpS_ret ?_
     refine thenS_r ?_
     refine fin1 (v := .int .i64 8) (.inr rfl) (.nil) Try.results84 rfl ?_
     exact fun w' hs => ⟨congrArg (fun z : Int => Ending.returned (.int .i64 z)) ((chk_8 (by first | exact chk_n0 (by omega) | exact chk_n1 (by assumption) | exact chk_n2 (by assumption) | exact chk_n3 (by assumption))).symm), hs⟩
    ·
     have b9 : (partOk 0 l2) = true := by simpa using b7
     refine s_gy (y_fieldAddr (o' := 3) rfl Try.underlying84 rfl Try.sizeOf82 (by decide) rfl) rfl rfl rfl rfl (b' := !(partOk 0 l2)) rfl b7 ?_
     refine s_gy (y_load1 rfl Try.isAgg82 (own1 .h rfl)) rfl rfl rfl rfl (b' := !(partOk 0 l2)) rfl b7 ?_
     refine s_gy (y_call (args := #[.slice a3 n3 c3, .int .i64 0]) (v := .bool (partOk 0 l3)) Try.call174 (ev2 rfl rfl) (fun w hs => part_c a3 n3 c3 l3 0 w hn3 ((oldR hr3) w hs) (by omega))) rfl rfl rfl rfl (b' := !(partOk 0 l2)) rfl b7 ?_
     refine s_gy (y_not (b := partOk 0 l3) rfl) rfl rfl rfl rfl (b' := !(partOk 0 l2)) rfl b7 ?_
     refine s_y (v := .bool (!(partOk 0 l3))) (y_pickF (b := !(partOk 0 l2)) rfl b7 rfl) rfl ?_
     refine wpL_nil ?_
     refine thenS_n ?_
     refine wpS_cond (t := !(partOk 0 l3)) rfl (fun b10 => ?_) (fun b10 => ?_)
     ·
      have b11 : (partOk 0 l3) = false := by simpa using b10
      refine wpS_seq ?_
      refine wpS_region ?_
      refine s_y (v := .int .i64 8) (y_assign rfl) rfl ?_
      refine wpL_nil ?_
      refine thenS_n ?_
      refine wpS_ret ?_
      refine thenS_r ?_
      refine fin1 (v := .int .i64 8) (.inr rfl) (.nil) Try.results84 rfl ?_
      exact fun w' hs => ⟨congrArg (fun z : Int => Ending.returned (.int .i64 z)) ((chk_8 (by first | exact chk_n0 (by omega) | exact chk_n1 (by assumption) | exact chk_n2 (by assumption) | exact chk_n3 (by assumption))).symm), hs⟩
     ·
      have b12 : (partOk 0 l3) = true := by simpa using b10
      refine wpS_skip ?_
      refine thenS_n ?_
      refine wpS_seq ?_
      refine wpS_region ?_
      refine s_y (v := .int .i64 0) (y_assign rfl) rfl ?_
      refine wpL_nil ?_
      refine thenS_n ?_
      refine wpS_ret ?_
      refine fin1 (v := .int .i64 0) (.inr rfl) (.nil) Try.results84 rfl ?_
      exact fun w' hs => ⟨congrArg (fun z : Int => Ending.returned (.int .i64 z)) ((chk_0 (chk_all (by omega) (by omega) (by assumption) (by assumption) (by assumption))).symm), hs⟩
theorem made_c (o : Opc) (a b c : Int64) (w : World) : Pure Try.prog 227 #[.agg #[.int .i64 o.o0, .int .i64 o.o1, .int .i64 o.o2, .int .i64 o.o3, .int .i64 o.o4, .int .i64 o.o5.toInt], .int .i64 a.toInt, .int .i64 b.toInt, .int .i64 c.toInt] w (.int .i64 ((madeV o a b c).toInt)) := by
 refine calls_S (n := 75) (σ0 := (upd (upd (upd (upd fr0 0 (.agg #[.int .i64 o.o0, .int .i64 o.o1, .int .i64 o.o2, .int .i64 o.o3, .int .i64 o.o4, .int .i64 o.o5.toInt])) 1 (.int .i64 a.toInt)) 2 (.int .i64 b.toInt)) 3 (.int .i64 c.toInt))) (D := []) (A := []) Try.func227 rfl Try.ntmps227 rfl (a4_fr _ _ _ _) (SH.start w) ?_
 refine wpS_seq ?_
 refine wpS_region ?_
 refine s_e rfl ?_
 refine e_box (v := .agg #[.int .i64 o.o0, .int .i64 o.o1, .int .i64 o.o2, .int .i64 o.o3, .int .i64 o.o4, .int .i64 o.o5.toInt]) (l := [.int .i64 o.o0, .int .i64 o.o1, .int .i64 o.o2, .int .i64 o.o3, .int .i64 o.o4, .int .i64 o.o5.toInt]) rfl rfl ?_
 intro b_1
 refine s_y (v := .int .i64 0) (y_assign rfl) rfl ?_
 refine wpL_nil ?_
 refine thenS_n ?_
 refine wpS_seq ?_
 refine wpS_seq ?_
 refine wpS_region ?_
 refine s_y (v := .pointer (some ⟨b_1, 0, none⟩)) (y_fieldAddr (o' := 0) rfl Try.underlying86 rfl Try.sizeOf3 (by decide) rfl) rfl ?_
 refine s_y (v := .int .i64 o.o0) (y_load1 rfl Try.isAgg3 (own1 .h rfl)) rfl ?_
 refine wpL_nil ?_
 refine thenS_n ?_
 refine wpS_block ?_
 refine wpS_seq ?_
 refine wpS_region ?_
 refine s_y (v := .bool (decide ((o.o0 : Int) = 1))) (y_eql (a := o.o0) (b := 1) rfl rfl rfl) rfl ?_
 refine s_y (v := .bool (decide ((o.o0 : Int) = 1))) (y_assign rfl) rfl ?_
 refine wpL_nil ?_
 refine thenS_n ?_
 refine wpS_cond (t := decide ((o.o0 : Int) = 1)) rfl (fun b2 => ?_) (fun b2 => ?_)
 ·
  have p2 := of_decide_eq_true b2
  refine wpS_seq ?_
  refine wpS_region ?_
  refine s_y (v := .pointer (some ⟨b_1, 5, none⟩)) (y_fieldAddr (o' := 5) rfl Try.underlying86 rfl Try.sizeOf2 (by decide) rfl) rfl ?_
  refine s_y (v := .int .i64 o.o5.toInt) (y_load1 rfl Try.isAgg2 (own1 .h rfl)) rfl ?_
  refine s_y (v := .int .i64 o.o5.toInt) (y_assign rfl) rfl ?_
  refine wpL_nil ?_
  refine thenS_n ?_
  refine wpS_ret ?_
  refine blockS_r ?_
  refine thenS_r ?_
  refine fin1 (M := []) (v := .int .i64 o.o5.toInt) (.inr rfl) (.nil) Try.results227 rfl ?_
  exact fun w' hs => ⟨congrArg (fun z : Int64 => Ending.returned (.int .i64 z.toInt)) (by unfold madeV; simp [*, one_less, one_same, pick64]), hs⟩
 ·
  have p2 := of_decide_eq_false b2
  refine wpS_seq ?_
  refine wpS_region ?_
  refine s_y (v := .bool (decide ((o.o0 : Int) = 2))) (y_eql (a := o.o0) (b := 2) rfl rfl rfl) rfl ?_
  refine s_y (v := .bool (decide ((o.o0 : Int) = 2))) (y_assign rfl) rfl ?_
  refine wpL_nil ?_
  refine thenS_n ?_
  refine wpS_cond (t := decide ((o.o0 : Int) = 2)) rfl (fun b3 => ?_) (fun b3 => ?_)
  ·
   have p3 := of_decide_eq_true b3
   refine wpS_seq ?_
   refine wpS_region ?_
   refine s_y (v := .int .i64 a.toInt) (y_move rfl) rfl ?_
   refine s_y (v := .int .i64 b.toInt) (y_move rfl) rfl ?_
   refine s_y (v := .int .i64 ((a + b).toInt)) (y_add (a := a.toInt) (b := b.toInt) rfl rfl (i_add _ _)) rfl ?_
   refine s_y (v := .int .i64 ((a + b).toInt)) (y_assign rfl) rfl ?_
   refine wpL_nil ?_
   refine thenS_n ?_
   refine wpS_ret ?_
   refine blockS_r ?_
   refine thenS_r ?_
   refine fin1 (M := []) (v := .int .i64 ((a + b).toInt)) (.inr rfl) (.nil) Try.results227 rfl ?_
   exact fun w' hs => ⟨congrArg (fun z : Int64 => Ending.returned (.int .i64 z.toInt)) (by unfold madeV; simp [*, one_less, one_same, pick64]), hs⟩
  ·
   have p3 := of_decide_eq_false b3
   refine wpS_seq ?_
   refine wpS_region ?_
   refine s_y (v := .bool (decide ((o.o0 : Int) = 3))) (y_eql (a := o.o0) (b := 3) rfl rfl rfl) rfl ?_
   refine s_y (v := .bool (decide ((o.o0 : Int) = 3))) (y_assign rfl) rfl ?_
   refine wpL_nil ?_
   refine thenS_n ?_
   refine wpS_cond (t := decide ((o.o0 : Int) = 3)) rfl (fun b4 => ?_) (fun b4 => ?_)
   ·
    have p4 := of_decide_eq_true b4
    refine wpS_seq ?_
    refine wpS_region ?_
    refine s_y (v := .int .i64 a.toInt) (y_move rfl) rfl ?_
    refine s_y (v := .int .i64 b.toInt) (y_move rfl) rfl ?_
    refine s_y (v := .int .i64 ((a - b).toInt)) (y_sub (a := a.toInt) (b := b.toInt) rfl rfl (i_sub _ _)) rfl ?_
    refine s_y (v := .int .i64 ((a - b).toInt)) (y_assign rfl) rfl ?_
    refine wpL_nil ?_
    refine thenS_n ?_
    refine wpS_ret ?_
    refine blockS_r ?_
    refine thenS_r ?_
    refine fin1 (M := []) (v := .int .i64 ((a - b).toInt)) (.inr rfl) (.nil) Try.results227 rfl ?_
    exact fun w' hs => ⟨congrArg (fun z : Int64 => Ending.returned (.int .i64 z.toInt)) (by unfold madeV; simp [*, one_less, one_same, pick64]), hs⟩
   ·
    have p4 := of_decide_eq_false b4
    refine wpS_seq ?_
    refine wpS_region ?_
    refine s_y (v := .bool (decide ((o.o0 : Int) = 4))) (y_eql (a := o.o0) (b := 4) rfl rfl rfl) rfl ?_
    refine s_y (v := .bool (decide ((o.o0 : Int) = 4))) (y_assign rfl) rfl ?_
    refine wpL_nil ?_
    refine thenS_n ?_
    refine wpS_cond (t := decide ((o.o0 : Int) = 4)) rfl (fun b5 => ?_) (fun b5 => ?_)
    ·
     have p5 := of_decide_eq_true b5
     refine wpS_seq ?_
     refine wpS_region ?_
     refine s_y (v := .int .i64 a.toInt) (y_move rfl) rfl ?_
     refine s_y (v := .int .i64 b.toInt) (y_move rfl) rfl ?_
     refine s_y (v := .int .i64 ((a * b).toInt)) (y_mul (a := a.toInt) (b := b.toInt) rfl rfl (i_mul _ _)) rfl ?_
     refine s_y (v := .int .i64 ((a * b).toInt)) (y_assign rfl) rfl ?_
     refine wpL_nil ?_
     refine thenS_n ?_
     refine wpS_ret ?_
     refine blockS_r ?_
     refine thenS_r ?_
     refine fin1 (M := []) (v := .int .i64 ((a * b).toInt)) (.inr rfl) (.nil) Try.results227 rfl ?_
     exact fun w' hs => ⟨congrArg (fun z : Int64 => Ending.returned (.int .i64 z.toInt)) (by unfold madeV; simp [*, one_less, one_same, pick64]), hs⟩
    ·
     have p5 := of_decide_eq_false b5
     refine wpS_seq ?_
     refine wpS_region ?_
     refine s_y (v := .bool (decide ((o.o0 : Int) = 5))) (y_eql (a := o.o0) (b := 5) rfl rfl rfl) rfl ?_
     refine s_y (v := .bool (decide ((o.o0 : Int) = 5))) (y_assign rfl) rfl ?_
     refine wpL_nil ?_
     refine thenS_n ?_
     refine wpS_cond (t := decide ((o.o0 : Int) = 5)) rfl (fun b6 => ?_) (fun b6 => ?_)
     ·
      have p6 := of_decide_eq_true b6
      refine wpS_seq ?_
      refine wpS_region ?_
      refine s_y (v := .int .i64 a.toInt) (y_move rfl) rfl ?_
      refine s_y (v := .int .i64 b.toInt) (y_move rfl) rfl ?_
      refine s_y (v := .int .i64 ((a &&& b).toInt)) (y_and (a := a.toInt) (b := b.toInt) rfl rfl (i_and _ _)) rfl ?_
      refine s_y (v := .int .i64 ((a &&& b).toInt)) (y_assign rfl) rfl ?_
      refine wpL_nil ?_
      refine thenS_n ?_
      refine wpS_ret ?_
      refine blockS_r ?_
      refine thenS_r ?_
      refine fin1 (M := []) (v := .int .i64 ((a &&& b).toInt)) (.inr rfl) (.nil) Try.results227 rfl ?_
      exact fun w' hs => ⟨congrArg (fun z : Int64 => Ending.returned (.int .i64 z.toInt)) (by unfold madeV; simp [*, one_less, one_same, pick64]), hs⟩
     ·
      have p6 := of_decide_eq_false b6
      refine wpS_seq ?_
      refine wpS_region ?_
      refine s_y (v := .bool (decide ((o.o0 : Int) = 6))) (y_eql (a := o.o0) (b := 6) rfl rfl rfl) rfl ?_
      refine s_y (v := .bool (decide ((o.o0 : Int) = 6))) (y_assign rfl) rfl ?_
      refine wpL_nil ?_
      refine thenS_n ?_
      refine wpS_cond (t := decide ((o.o0 : Int) = 6)) rfl (fun b7 => ?_) (fun b7 => ?_)
      ·
       have p7 := of_decide_eq_true b7
       refine wpS_seq ?_
       refine wpS_region ?_
       refine s_y (v := .int .i64 a.toInt) (y_move rfl) rfl ?_
       refine s_y (v := .int .i64 b.toInt) (y_move rfl) rfl ?_
       refine s_y (v := .int .i64 ((a ||| b).toInt)) (y_or (a := a.toInt) (b := b.toInt) rfl rfl (i_or _ _)) rfl ?_
       refine s_y (v := .int .i64 ((a ||| b).toInt)) (y_assign rfl) rfl ?_
       refine wpL_nil ?_
       refine thenS_n ?_
       refine wpS_ret ?_
       refine blockS_r ?_
       refine thenS_r ?_
       refine fin1 (M := []) (v := .int .i64 ((a ||| b).toInt)) (.inr rfl) (.nil) Try.results227 rfl ?_
       exact fun w' hs => ⟨congrArg (fun z : Int64 => Ending.returned (.int .i64 z.toInt)) (by unfold madeV; simp [*, one_less, one_same, pick64]), hs⟩
      ·
       have p7 := of_decide_eq_false b7
       refine wpS_seq ?_
       refine wpS_region ?_
       refine s_y (v := .bool (decide ((o.o0 : Int) = 7))) (y_eql (a := o.o0) (b := 7) rfl rfl rfl) rfl ?_
       refine s_y (v := .bool (decide ((o.o0 : Int) = 7))) (y_assign rfl) rfl ?_
       refine wpL_nil ?_
       refine thenS_n ?_
       refine wpS_cond (t := decide ((o.o0 : Int) = 7)) rfl (fun b8 => ?_) (fun b8 => ?_)
       ·
        have p8 := of_decide_eq_true b8
        refine wpS_seq ?_
        refine wpS_region ?_
        refine s_y (v := .int .i64 a.toInt) (y_move rfl) rfl ?_
        refine s_y (v := .int .i64 b.toInt) (y_move rfl) rfl ?_
        refine s_y (v := .int .i64 ((a ^^^ b).toInt)) (y_xor (a := a.toInt) (b := b.toInt) rfl rfl (i_xor _ _)) rfl ?_
        refine s_y (v := .int .i64 ((a ^^^ b).toInt)) (y_assign rfl) rfl ?_
        refine wpL_nil ?_
        refine thenS_n ?_
        refine wpS_ret ?_
        refine blockS_r ?_
        refine thenS_r ?_
        refine fin1 (M := []) (v := .int .i64 ((a ^^^ b).toInt)) (.inr rfl) (.nil) Try.results227 rfl ?_
        exact fun w' hs => ⟨congrArg (fun z : Int64 => Ending.returned (.int .i64 z.toInt)) (by unfold madeV; simp [*, one_less, one_same, pick64]), hs⟩
       ·
        have p8 := of_decide_eq_false b8
        refine wpS_seq ?_
        refine wpS_region ?_
        refine s_y (v := .bool (decide ((o.o0 : Int) = 8))) (y_eql (a := o.o0) (b := 8) rfl rfl rfl) rfl ?_
        refine s_y (v := .bool (decide ((o.o0 : Int) = 8))) (y_assign rfl) rfl ?_
        refine wpL_nil ?_
        refine thenS_n ?_
        refine wpS_cond (t := decide ((o.o0 : Int) = 8)) rfl (fun b9 => ?_) (fun b9 => ?_)
        ·
         have p9 := of_decide_eq_true b9
         refine wpS_seq ?_
         refine wpS_region ?_
         refine s_y (v := .int .i64 a.toInt) (y_move rfl) rfl ?_
         refine s_y (v := .int .i64 b.toInt) (y_move rfl) rfl ?_
         refine s_y (v := .int .u64 ((b64 (decide (a < b))).toNat)) (y_call (args := #[.int .i64 a.toInt, .int .i64 b.toInt]) Try.call144 (ev2 rfl rfl) (fun w hs => below_c a b w)) rfl ?_
         refine s_y (v := .int .i64 (((b64 (decide (a < b))).toInt64).toInt)) (y_convI (a := (b64 (decide (a < b))).toNat) rfl Try.underlying24 Try.underlying2 (ui_conv _)) rfl ?_
         refine s_y (v := .int .i64 (((b64 (decide (a < b))).toInt64).toInt)) (y_assign rfl) rfl ?_
         refine wpL_nil ?_
         refine thenS_n ?_
         refine wpS_ret ?_
         refine blockS_r ?_
         refine thenS_r ?_
         refine fin1 (M := []) (v := .int .i64 (((b64 (decide (a < b))).toInt64).toInt)) (.inr rfl) (.nil) Try.results227 rfl ?_
         exact fun w' hs => ⟨congrArg (fun z : Int64 => Ending.returned (.int .i64 z.toInt)) (by unfold madeV; simp [*, one_less, one_same, pick64]), hs⟩
        ·
         have p9 := of_decide_eq_false b9
         refine wpS_seq ?_
         refine wpS_region ?_
         refine s_y (v := .bool (decide ((o.o0 : Int) = 9))) (y_eql (a := o.o0) (b := 9) rfl rfl rfl) rfl ?_
         refine s_y (v := .bool (decide ((o.o0 : Int) = 9))) (y_assign rfl) rfl ?_
         refine wpL_nil ?_
         refine thenS_n ?_
         refine wpS_cond (t := decide ((o.o0 : Int) = 9)) rfl (fun b10 => ?_) (fun b10 => ?_)
         ·
          have p10 := of_decide_eq_true b10
          refine wpS_seq ?_
          refine wpS_region ?_
          refine s_y (v := .int .i64 a.toInt) (y_move rfl) rfl ?_
          refine s_y (v := .int .u64 (a.toUInt64.toNat)) (y_convI (a := a.toInt) rfl Try.underlying2 Try.underlying24 (iu_conv _)) rfl ?_
          refine s_y (v := .int .i64 b.toInt) (y_move rfl) rfl ?_
          refine s_y (v := .int .u64 (b.toUInt64.toNat)) (y_convI (a := b.toInt) rfl Try.underlying2 Try.underlying24 (iu_conv _)) rfl ?_
          refine s_y (v := .int .u64 ((b64 (decide (a.toUInt64 = b.toUInt64))).toNat)) (y_call (args := #[.int .u64 (a.toUInt64.toNat), .int .u64 (b.toUInt64.toNat)]) Try.call143 (ev2 rfl rfl) (fun w hs => same_c a.toUInt64 b.toUInt64 w)) rfl ?_
          refine s_y (v := .int .i64 (((b64 (decide (a.toUInt64 = b.toUInt64))).toInt64).toInt)) (y_convI (a := (b64 (decide (a.toUInt64 = b.toUInt64))).toNat) rfl Try.underlying24 Try.underlying2 (ui_conv _)) rfl ?_
          refine s_y (v := .int .i64 (((b64 (decide (a.toUInt64 = b.toUInt64))).toInt64).toInt)) (y_assign rfl) rfl ?_
          refine wpL_nil ?_
          refine thenS_n ?_
          refine wpS_ret ?_
          refine blockS_r ?_
          refine thenS_r ?_
          refine fin1 (M := []) (v := .int .i64 (((b64 (decide (a.toUInt64 = b.toUInt64))).toInt64).toInt)) (.inr rfl) (.nil) Try.results227 rfl ?_
          exact fun w' hs => ⟨congrArg (fun z : Int64 => Ending.returned (.int .i64 z.toInt)) (by unfold madeV; simp [*, one_less, one_same, pick64]), hs⟩
         ·
          have p10 := of_decide_eq_false b10
          refine wpS_seq ?_
          refine wpS_region ?_
          refine s_y (v := .bool (decide ((o.o0 : Int) = 10))) (y_eql (a := o.o0) (b := 10) rfl rfl rfl) rfl ?_
          refine s_y (v := .bool (decide ((o.o0 : Int) = 10))) (y_assign rfl) rfl ?_
          refine wpL_nil ?_
          refine thenS_n ?_
          refine wpS_cond (t := decide ((o.o0 : Int) = 10)) rfl (fun b11 => ?_) (fun b11 => ?_)
          ·
           have p11 := of_decide_eq_true b11
           refine wpS_seq ?_
           refine wpS_region ?_
           refine s_y (v := .int .i64 a.toInt) (y_move rfl) rfl ?_
           refine s_y (v := .int .u64 (a.toUInt64.toNat)) (y_convI (a := a.toInt) rfl Try.underlying2 Try.underlying24 (iu_conv _)) rfl ?_
           refine s_y (v := .int .u64 ((b64 (decide (a.toUInt64 = 0))).toNat)) (y_call (args := #[.int .u64 (a.toUInt64.toNat), .int .u64 0]) Try.call143 (ev2 rfl rfl) (fun w hs => same_c a.toUInt64 0 w)) rfl ?_
           refine s_y (v := .int .i64 c.toInt) (y_move rfl) rfl ?_
           refine s_y (v := .int .u64 (c.toUInt64.toNat)) (y_convI (a := c.toInt) rfl Try.underlying2 Try.underlying24 (iu_conv _)) rfl ?_
           refine s_y (v := .int .i64 b.toInt) (y_move rfl) rfl ?_
           refine s_y (v := .int .u64 (b.toUInt64.toNat)) (y_convI (a := b.toInt) rfl Try.underlying2 Try.underlying24 (iu_conv _)) rfl ?_
           refine s_y (v := .int .u64 ((if (b64 (decide (a.toUInt64 = 0))) &&& 1 = 1 then c.toUInt64 else b.toUInt64).toNat)) (y_call (args := #[.int .u64 ((b64 (decide (a.toUInt64 = 0))).toNat), .int .u64 (c.toUInt64.toNat), .int .u64 (b.toUInt64.toNat)]) Try.call147 (ev3 rfl rfl rfl) (fun w hs => ctpick_c (b64 (decide (a.toUInt64 = 0))) c.toUInt64 b.toUInt64 w)) rfl ?_
           refine s_y (v := .int .i64 (((if (b64 (decide (a.toUInt64 = 0))) &&& 1 = 1 then c.toUInt64 else b.toUInt64).toInt64).toInt)) (y_convI (a := (if (b64 (decide (a.toUInt64 = 0))) &&& 1 = 1 then c.toUInt64 else b.toUInt64).toNat) rfl Try.underlying24 Try.underlying2 (ui_conv _)) rfl ?_
           refine s_y (v := .int .i64 (((if (b64 (decide (a.toUInt64 = 0))) &&& 1 = 1 then c.toUInt64 else b.toUInt64).toInt64).toInt)) (y_assign rfl) rfl ?_
           refine wpL_nil ?_
           refine thenS_n ?_
           refine wpS_ret ?_
           refine blockS_r ?_
           refine thenS_r ?_
           refine fin1 (M := []) (v := .int .i64 (((if (b64 (decide (a.toUInt64 = 0))) &&& 1 = 1 then c.toUInt64 else b.toUInt64).toInt64).toInt)) (.inr rfl) (.nil) Try.results227 rfl ?_
           exact fun w' hs => ⟨congrArg (fun z : Int64 => Ending.returned (.int .i64 z.toInt)) (by unfold madeV; simp [*, one_less, one_same, pick64]), hs⟩
          ·
           have p11 := of_decide_eq_false b11
           refine wpS_skip ?_
           refine blockS_n ?_
           refine thenS_n ?_
           refine wpS_seq ?_
           refine wpS_region ?_
           refine s_y (v := .int .i64 a.toInt) (y_move rfl) rfl ?_
           refine s_y (v := .int .i64 b.toInt) (y_move rfl) rfl ?_
           refine s_y (v := .int .u64 (b.toUInt64.toNat)) (y_convI (a := b.toInt) rfl Try.underlying2 Try.underlying24 (iu_conv _)) rfl ?_
           refine s_y (v := .int .u64 ((b.toUInt64 &&& 63).toNat)) (y_and (a := b.toUInt64.toNat) (b := 63) rfl rfl (u_andL _ 63 (by decide))) rfl ?_
           refine s_y (v := .int .i64 ((a >>> (b &&& 63)).toInt)) (y_shr (a := a.toInt) (b := (b.toUInt64 &&& 63).toNat) rfl rfl (by omega) (i_sar a b)) rfl ?_
           refine s_y (v := .int .i64 ((a >>> (b &&& 63)).toInt)) (y_assign rfl) rfl ?_
           refine wpL_nil ?_
           refine thenS_n ?_
           refine wpS_ret ?_
           refine fin1 (M := []) (v := .int .i64 ((a >>> (b &&& 63)).toInt)) (.inr rfl) (.nil) Try.results227 rfl ?_
           exact fun w' hs => ⟨congrArg (fun z : Int64 => Ending.returned (.int .i64 z.toInt)) (by unfold madeV; simp [*, one_less, one_same, pick64]), hs⟩
theorem emit1_c (v : Int64) (c : UInt64) (b : Nat) (w : World) (hc : w.cell? ⟨b, 0, none⟩ = some (.int .u64 c.toNat)) : Pure Try.prog 241 #[.int .i64 v.toInt, .pointer (some ⟨b, 0, none⟩)] w (.int .i64 (((if c &&& 1 = 1 then 0 else v.toUInt64).toInt64).toInt)) := by
 refine calls_S (n := 9) (σ0 := (upd (upd fr0 0 (.int .i64 v.toInt)) 1 (.pointer (some ⟨b, 0, none⟩)))) (D := []) (A := []) Try.func241 rfl Try.ntmps241 rfl (a2_fr _ _) (SH.start w) ?_
 refine wpS_seq ?_
 refine wpS_region ?_
 refine s_y (v := .int .i64 0) (y_assign rfl) rfl ?_
 refine wpL_nil ?_
 refine thenS_n ?_
 refine wpS_seq ?_
 refine wpS_region ?_
 refine s_y (v := .int .u64 c.toNat) (y_load1 rfl Try.isAgg24 (old1 hc (by simp))) rfl ?_
 refine s_y (v := .int .i64 v.toInt) (y_move rfl) rfl ?_
 refine s_y (v := .int .u64 (v.toUInt64.toNat)) (y_convI (a := v.toInt) rfl Try.underlying2 Try.underlying24 (iu_conv _)) rfl ?_
 refine s_y (v := .int .u64 ((if c &&& 1 = 1 then 0 else v.toUInt64).toNat)) (y_call (args := #[.int .u64 c.toNat, .int .u64 0, .int .u64 (v.toUInt64.toNat)]) Try.call147 (ev3 rfl rfl rfl) (fun w hs => ctpick_c c 0 v.toUInt64 w)) rfl ?_
 refine s_y (v := .int .i64 (((if c &&& 1 = 1 then 0 else v.toUInt64).toInt64).toInt)) (y_convI (a := (if c &&& 1 = 1 then 0 else v.toUInt64).toNat) rfl Try.underlying24 Try.underlying2 (ui_conv _)) rfl ?_
 refine s_y (v := .int .i64 (((if c &&& 1 = 1 then 0 else v.toUInt64).toInt64).toInt)) (y_assign rfl) rfl ?_
 refine wpL_nil ?_
 refine thenS_n ?_
 refine wpS_ret ?_
 refine fin1 (M := []) (v := .int .i64 (((if c &&& 1 = 1 then 0 else v.toUInt64).toInt64).toInt)) (.inr rfl) (.nil) Try.results241 rfl ?_
 exact fun w' hs => ⟨rfl, hs⟩
theorem valsO_c (a : Option Addr) (n c : Nat) (w : World) : Makes Try.prog 225 #[.slice a n c] w [] (X := Nat) (fun x : Nat => .func (.func 240) #[] #[.pointer (some ⟨x, 0, none⟩)]) (fun x : Nat => [cel x 82 [.slice a n c]]) (fun _ => True) := by
 refine calls_S (n := 4) (σ0 := (upd fr0 0 (.slice a n c))) (D := []) (A := []) Try.func225 rfl Try.ntmps225 rfl (a1_fr _) (SH.start w) ?_
 refine wpS_seq ?_
 refine wpS_region ?_
 refine s_e rfl ?_
 refine e_box (v := .slice a n c) (l := [.slice a n c]) rfl rfl ?_
 intro b_1
 refine s_y (v := .nilFunc) (y_assign rfl) rfl ?_
 refine wpL_nil ?_
 refine thenS_n ?_
 refine wpS_seq ?_
 refine wpS_region ?_
 refine s_y (v := .func (.func 240) #[] #[.pointer (some ⟨b_1, 0, none⟩)]) (y_makeFunc (a := #[]) (b := #[.pointer (some ⟨b_1, 0, none⟩)]) ev0 (ev1 rfl)) rfl ?_
 refine s_y (v := .func (.func 240) #[] #[.pointer (some ⟨b_1, 0, none⟩)]) (y_assign rfl) rfl ?_
 refine wpL_nil ?_
 refine thenS_n ?_
 refine wpS_ret ?_
 refine fin1 (M := [cel b_1 82 [.slice a n c]]) (v := .func (.func 240) #[] #[.pointer (some ⟨b_1, 0, none⟩)]) (.inr rfl) (.p .h .nil) Try.results225 rfl ?_
 exact fun w' hs => ⟨b_1, rfl, hs, trivial⟩
theorem valsO_it (b : Nat) (a : Option Addr) (n c : Nat) (vs : List Opc) (w : World) (hb : w.cell? ⟨b, 0, none⟩ = some (.slice a n c)) (hn : vs.length = n) (hr : Rds w a (vs.flatMap opcV)) (hbn : n ≤ 1000000) : Iter Try.prog 240 #[.pointer (some ⟨b, 0, none⟩)] (fun k => #[.agg #[.int .i64 ((vs.getD k default).o0), .int .i64 ((vs.getD k default).o1), .int .i64 ((vs.getD k default).o2), .int .i64 ((vs.getD k default).o3), .int .i64 ((vs.getD k default).o4), .int .i64 (((vs.getD k default).o5).toInt)]]) n (fun z => z = b ∨ 0 < vs.length ∧ z = aB a) w := by
 intro yv I E A hrd hI hA hY
 show Calls Try.prog 240 #[yv, .pointer (some ⟨b, 0, none⟩)] w _
 refine calls_S (n := 16) (σ0 := (upd (upd fr0 0 yv) 1 (.pointer (some ⟨b, 0, none⟩)))) (D := (A.flatMap Res.fp)) (A := A) Try.func240 rfl Try.ntmps240 rfl (a2_fr _ _) hA ?_
 refine wpS_seq ?_
 refine wpS_region ?_
 refine s_y (v := .slice a n c) (y_load1 rfl Try.isAgg82 (old1 hb (hrd _ (.inl rfl)))) rfl ?_
 refine s_y (v := .int .i64 ((n : Nat) : Int)) (y_len (ty' := 0) (at_ := #[]) rfl Try.underlying82) rfl ?_
 refine s_y (v := .int .i64 0) (y_move rfl) rfl ?_
 refine wpL_nil ?_
 refine thenS_n ?_
 refine wpS_block ?_
 refine wpS_loop (fun mez ds σ L => ∃ i : Nat, ∃ A1 : List Res, mez = n - i ∧ (i ≤ n) ∧ (I i A1) ∧ ds = [] ∧ σ 0 = yv ∧ σ 5 = .slice a n c ∧ σ 6 = .int .i64 ((n : Nat) : Int) ∧ σ 7 = .int .i64 ((i : Nat) : Int) ∧ Ent L A1) (m0 := n - 0) ⟨0, A, rfl, by omega, hI, rfl, rfl, rfl, rfl, rfl, (Ent.refl _)⟩ ?_
 rintro mez ds σ L ⟨i, A1, hm_1, hf0_1, hf1_1, rfl, h0_1, h5_1, h6_1, h7_1, hE_1⟩
 refine wpS_ent hE_1 ?_; clear hE_1
 refine wpS_seq ?_
 refine wpS_region ?_
 refine s_y (v := .bool (decide (i < n))) (y_lss (a := ((i : Nat) : Int)) (b := ((n : Nat) : Int)) (c := decide (i < n)) h7_1 h6_1 (decide_eq_decide.2 (by omega))) rfl ?_
 refine wpL_nil ?_
 refine thenS_n ?_
 refine wpS_seq ?_
 refine wpS_cond (t := decide (i < n)) rfl (fun b2 => ?_) (fun b2 => ?_)
 ·
  have p2 := of_decide_eq_true b2
  refine wpS_skip ?_
  refine thenS_n ?_
  refine wpS_seq ?_
  refine wpS_block ?_
  refine wpS_seq ?_
  refine wpS_region ?_
  refine s_y (v := .pointer (some ⟨aB a, aO a + i * 6, none⟩)) (y_idx (o := i * 6) h5_1 h7_1 Try.underlying82 Try.sizeOf86 (oldRD' hr (fun hl => hrd _ (.inr ⟨fl_pos' opcV_len hl, rfl⟩))) ((fl_len opcV_len _).trans (by first | omega | (simp only [List.length_set, List.length_take, List.length_drop]; done) | (simp only [List.length_set, List.length_take, List.length_drop]; omega))) (by decide) (by omega) (by omega) (by omega)) rfl ?_
  refine s_y (v := .agg #[.int .i64 ((vs.getD i default).o0), .int .i64 ((vs.getD i default).o1), .int .i64 ((vs.getD i default).o2), .int .i64 ((vs.getD i default).o3), .int .i64 ((vs.getD i default).o4), .int .i64 (((vs.getD i default).o5).toInt)]) (y_loadN (vs := opcV (vs.getD i default)) rfl Try.isAgg86 Try.sizeOf86 (rdN (oldRD' hr (fun hl => hrd _ (.inr ⟨fl_pos' opcV_len hl, rfl⟩))) (fl_getN opcV_len vs i (by first | omega | (simp only [List.length_set, List.length_take, List.length_drop]; done) | (simp only [List.length_set, List.length_take, List.length_drop]; omega))))) rfl ?_
  refine s_e rfl ?_
  refine e_alloc (l := [.int .i64 0, .int .i64 0, .int .i64 0, .int .i64 0, .int .i64 0, .int .i64 0]) Try.zeroValue86 rfl ?_
  intro b_3
  refine s_e0 ?_
  refine e_store (vs := [.int .i64 ((vs.getD i default).o0), .int .i64 ((vs.getD i default).o1), .int .i64 ((vs.getD i default).o2), .int .i64 ((vs.getD i default).o3), .int .i64 ((vs.getD i default).o4), .int .i64 (((vs.getD i default).o5).toInt)]) (l' := [.int .i64 ((vs.getD i default).o0), .int .i64 ((vs.getD i default).o1), .int .i64 ((vs.getD i default).o2), .int .i64 ((vs.getD i default).o3), .int .i64 ((vs.getD i default).o4), .int .i64 (((vs.getD i default).o5).toInt)]) rfl rfl rfl rfl Try.sizeOf86 .h (Nat.le_of_ble_eq_true rfl) rfl ?_
  refine wpL_nil ?_
  refine thenS_n ?_
  refine wpS_seq ?_
  refine wpS_region ?_
  refine s_y (v := yv) (y_move h0_1) rfl ?_
  refine s_y (v := .agg #[.int .i64 ((vs.getD i default).o0), .int .i64 ((vs.getD i default).o1), .int .i64 ((vs.getD i default).o2), .int .i64 ((vs.getD i default).o3), .int .i64 ((vs.getD i default).o4), .int .i64 (((vs.getD i default).o5).toInt)]) (y_loadN rfl Try.isAgg86 Try.sizeOf86 (ownN .h rfl)) rfl ?_
  refine s_e rfl ?_
  refine e_yield (own := [cel b_3 86 [.int .i64 ((vs.getD i default).o0), .int .i64 ((vs.getD i default).o1), .int .i64 ((vs.getD i default).o2), .int .i64 ((vs.getD i default).o3), .int .i64 ((vs.getD i default).o4), .int .i64 (((vs.getD i default).o5).toInt)]]) (A := A1) (enc := (fun k => #[.agg #[.int .i64 ((vs.getD k default).o0), .int .i64 ((vs.getD k default).o1), .int .i64 ((vs.getD k default).o2), .int .i64 ((vs.getD k default).o3), .int .i64 ((vs.getD k default).o4), .int .i64 (((vs.getD k default).o5).toInt)]])) (k := i) hY rfl (ev1 rfl) (by omega) (by assumption) ?_ ?_
  ·intro A_4 hI_5
   refine s_y (v := .bool false) (y_notK (b := true) (c := false) rfl rfl) rfl ?_
   refine wpL_nil ?_
   refine thenS_n ?_
   refine wpS_cond_f rfl ?_
   refine wpS_skip ?_
   refine blockS_n ?_
   refine thenS_n ?_
   refine wpS_region ?_
   refine s_y (v := .int .i64 (((i + 1) : Nat) : Int)) (y_add (a := ((i : Nat) : Int)) (b := 1) h7_1 rfl (wI (by omega) (by omega) (by omega))) rfl ?_
   refine s_y (v := .int .i64 (((i + 1) : Nat) : Int)) (y_move rfl) rfl ?_
   refine wpL_nil ?_
   refine thenS_n ?_
   exact ⟨_, by omega, ⟨(i + 1), A_4, rfl, by omega, hI_5, rfl, h0_1, h5_1, h6_1, rfl, (Ent.skip _ (Ent.refl _))⟩⟩
  ·intro A_6 hI_7
   refine s_y (v := .bool true) (y_notK (b := false) (c := true) rfl rfl) rfl ?_
   refine wpL_nil ?_
   refine thenS_n ?_
   refine wpS_cond_t rfl ?_
   refine wpS_ret ?_
   refine blockS_r ?_
   refine thenS_r ?_
   refine thenS_r ?_
   refine blockS_r ?_
   exact fin0 (.inr rfl) (Ent.skip _ (Ent.refl _)) Try.results240 (fun w' hs => ⟨rfl, A_6, hs, .inr ⟨i, by omega, hI_7⟩⟩)
 ·
  have p2 := of_decide_eq_false b2
  refine wpS_exit ?_
  refine thenS_x ?_
  refine thenS_x ?_
  refine blockS_h ?_
  exact fin0 (.inl rfl) (Ent.refl _) Try.results240 (fun w' hs => ⟨rfl, A1, hs, .inl (by rw [show n = i by omega]; assumption)⟩)
theorem valsO_at (b : Nat) (a : Option Addr) (n c : Nat) (vs : List Opc) (w : World) (hb : w.cell? ⟨b, 0, none⟩ = some (.slice a n c)) (hn : vs.length = n) (hr : Rds w a (vs.flatMap opcV)) (hbn : n ≤ 1000000) :
    IterAt Try.prog 240 #[.pointer (some ⟨b, 0, none⟩)] (fun k => #[.agg #[.int .i64 (((vs.getD k default)).o0), .int .i64 (((vs.getD k default)).o1), .int .i64 (((vs.getD k default)).o2), .int .i64 (((vs.getD k default)).o3), .int .i64 (((vs.getD k default)).o4), .int .i64 ((((vs.getD k default)).o5).toInt)]]) n (fun z => z = b ∨ 0 < vs.length ∧ z = aB a) w :=
  ⟨fun w' hs => valsO_it b a n c vs w' (cell_old hb hs) hn (hr.below (SH.below hs)) hbn, by
    rintro z (rfl | ⟨hl, rfl⟩)
    · exact cell_lt hb
    · exact rdBlk hr (fl_pos opcV_len (by decide) hl)⟩
theorem emit_c (mb : Nat) (Rg : List Int64) (sa : Option Addr) (sn sc : Nat) (xs : List Rec) (q : Int64) (s kk v al : Int64) (w : World) (hx : xs.length = sn) (hb : sn ≤ 1000000) (h0 : 0 ≤ s.toInt) (h1 : s.toInt < (sn : Int)) (hA : SH w (([cel mb 201 (macV Rg sa sn sc q), osl sa sc sn 4 23 (xs.flatMap recV)] : List Res).flatMap Res.fp) [cel mb 201 (macV Rg sa sn sc q), osl sa sc sn 4 23 (xs.flatMap recV)] w) : Calls Try.prog 226 #[.pointer (some ⟨mb, 0, none⟩), .int .i64 s.toInt, .int .i64 kk.toInt, .int .i64 v.toInt, .int .i64 al.toInt] w (fun e w' => e = .returned (.tuple #[]) ∧ SH w (([cel mb 201 (macV Rg sa sn sc q), osl sa sc sn 4 23 (xs.flatMap recV)] : List Res).flatMap Res.fp) [cel mb 201 (macV Rg sa sn sc q), osl sa sc sn 4 23 ((xs.set s.toInt.toNat (emitR (q + s) kk v al)).flatMap recV)] w') := by
 refine calls_S (n := 39) (σ0 := (upd (upd (upd (upd (upd fr0 0 (.pointer (some ⟨mb, 0, none⟩))) 1 (.int .i64 s.toInt)) 2 (.int .i64 kk.toInt)) 3 (.int .i64 v.toInt)) 4 (.int .i64 al.toInt))) (D := (([cel mb 201 (macV Rg sa sn sc q), osl sa sc sn 4 23 (xs.flatMap recV)] : List Res).flatMap Res.fp)) (A := [cel mb 201 (macV Rg sa sn sc q), osl sa sc sn 4 23 (xs.flatMap recV)]) Try.func226 rfl Try.ntmps226 rfl (a5_fr _ _ _ _ _) hA ?_
 refine wpS_seq ?_
 refine wpS_region ?_
 refine s_y (v := .int .i64 al.toInt) (y_move rfl) rfl ?_
 refine s_y (v := .int .u64 (al.toUInt64.toNat)) (y_convI (a := al.toInt) rfl Try.underlying2 Try.underlying24 (iu_conv _)) rfl ?_
 refine s_y (v := .int .u64 ((b64 (decide (al.toUInt64 = 0))).toNat)) (y_call (args := #[.int .u64 (al.toUInt64.toNat), .int .u64 0]) Try.call143 (ev2 rfl rfl) (fun w hs => same_c al.toUInt64 0 w)) rfl ?_
 refine s_e rfl ?_
 refine e_alloc (l := [.int .u64 0]) Try.zeroValue24 rfl ?_
 intro b_1
 refine s_e0 ?_
 refine e_store (vs := [.int .u64 ((b64 (decide (al.toUInt64 = 0))).toNat)]) (l' := [.int .u64 ((b64 (decide (al.toUInt64 = 0))).toNat)]) rfl rfl rfl rfl Try.sizeOf24 .h (Nat.le_of_ble_eq_true rfl) rfl ?_
 refine wpL_nil ?_
 refine thenS_n ?_
 refine wpS_seq ?_
 refine wpS_region ?_
 refine s_y (v := .func (.func 241) #[] #[.pointer (some ⟨b_1, 0, none⟩)]) (y_makeFunc (a := #[]) (b := #[.pointer (some ⟨b_1, 0, none⟩)]) ev0 (ev1 rfl)) rfl ?_
 refine s_y (v := .func (.func 241) #[] #[.pointer (some ⟨b_1, 0, none⟩)]) (y_assign rfl) rfl ?_
 refine wpL_nil ?_
 refine thenS_n ?_
 refine wpS_anyL [cel b_1 24 [.int .u64 ((b64 (decide (al.toUInt64 = 0))).toNat)]] [] (by kernel_rfl) ?_
 refine anyS_take (i := 0) rfl (by kernel_rfl) (by kernel_rfl) (by kernel_rfl) (by kernel_rfl) (Yq.of (v := .pointer (some ⟨mb, 0, none⟩)) (y_move rfl) rfl) (.p .h .nil) ?_
 refine anyS_take (i := 1) rfl (by kernel_rfl) (by kernel_rfl) (by kernel_rfl) (by kernel_rfl) (Yq.of (v := .pointer (some ⟨mb, 0, none⟩)) (y_nilP rfl) rfl) (.p .h .nil) ?_
 refine anyS_take (i := 2) rfl (by kernel_rfl) (by kernel_rfl) (by kernel_rfl) (by kernel_rfl) (Yq.of (v := .pointer (some ⟨mb, 8, none⟩)) (y_fieldAddr (o' := 8) rfl Try.underlying201 rfl Try.sizeOf69 (by decide) rfl) rfl) (.p .h .nil) ?_
 refine anyS_take (i := 4) rfl (by kernel_rfl) (by kernel_rfl) (by kernel_rfl) (by kernel_rfl) (Yq.of (v := .int .i64 s.toInt) (y_move rfl) rfl) (.p .h .nil) ?_
 refine anyS_take (i := 5) rfl (by kernel_rfl) (by kernel_rfl) (by kernel_rfl) (by kernel_rfl) (Yq.of (v := .int .u64 ((b64 (decide (al.toUInt64 = 0))).toNat)) (y_load1 rfl Try.isAgg24 (own1 .h rfl)) rfl) (.p .h .nil) ?_
 refine anyS_take (i := 6) rfl (by kernel_rfl) (by kernel_rfl) (by kernel_rfl) (by kernel_rfl) (Yq.of (v := .bool (decide ((b64 (decide (al.toUInt64 = 0))) = 1))) (y_eql (a := (b64 (decide (al.toUInt64 = 0))).toNat) (b := 1) (c := decide ((b64 (decide (al.toUInt64 = 0))) = 1)) rfl rfl (u_eqlL _ 1 (by decide))) rfl) (.p .h .nil) ?_
 refine anyS_take (i := 7) rfl (by kernel_rfl) (by kernel_rfl) (by kernel_rfl) (by kernel_rfl) (Yq.of (v := .func (.func 241) #[] #[.pointer (some ⟨b_1, 0, none⟩)]) (y_move rfl) rfl) (.p .h .nil) ?_
 refine anyS_take (i := 8) rfl (by kernel_rfl) (by kernel_rfl) (by kernel_rfl) (by kernel_rfl) (Yq.of (v := .int .i64 kk.toInt) (y_move rfl) rfl) (.p .h .nil) ?_
 refine anyS_take (i := 9) rfl (by kernel_rfl) (by kernel_rfl) (by kernel_rfl) (by kernel_rfl) (Yq.of (v := .int .i64 (((if (b64 (decide (al.toUInt64 = 0))) &&& 1 = 1 then 0 else kk.toUInt64).toInt64).toInt)) (y_callV (cap := #[.pointer (some ⟨b_1, 0, none⟩)]) (args := #[.int .i64 kk.toInt]) (args' := #[.int .i64 kk.toInt, .pointer (some ⟨b_1, 0, none⟩)]) rfl Try.call241 (ev1 rfl) rfl (fun w hs => emit1_c kk (b64 (decide (al.toUInt64 = 0))) b_1 w (own1 .h rfl w hs))) rfl) (.p .h .nil) ?_
 refine anyS_take (i := 10) rfl (by kernel_rfl) (by kernel_rfl) (by kernel_rfl) (by kernel_rfl) (Yq.of (v := .func (.func 241) #[] #[.pointer (some ⟨b_1, 0, none⟩)]) (y_move rfl) rfl) (.p .h .nil) ?_
 refine anyS_take (i := 11) rfl (by kernel_rfl) (by kernel_rfl) (by kernel_rfl) (by kernel_rfl) (Yq.of (v := .int .i64 v.toInt) (y_move rfl) rfl) (.p .h .nil) ?_
 refine anyS_take (i := 12) rfl (by kernel_rfl) (by kernel_rfl) (by kernel_rfl) (by kernel_rfl) (Yq.of (v := .int .i64 (((if (b64 (decide (al.toUInt64 = 0))) &&& 1 = 1 then 0 else v.toUInt64).toInt64).toInt)) (y_callV (cap := #[.pointer (some ⟨b_1, 0, none⟩)]) (args := #[.int .i64 v.toInt]) (args' := #[.int .i64 v.toInt, .pointer (some ⟨b_1, 0, none⟩)]) rfl Try.call241 (ev1 rfl) rfl (fun w hs => emit1_c v (b64 (decide (al.toUInt64 = 0))) b_1 w (own1 .h rfl w hs))) rfl) (.p .h .nil) ?_
 refine anyS_take (i := 13) rfl (by kernel_rfl) (by kernel_rfl) (by kernel_rfl) (by kernel_rfl) (Yq.of (v := .func (.func 241) #[] #[.pointer (some ⟨b_1, 0, none⟩)]) (y_move rfl) rfl) (.p .h .nil) ?_
 refine anyS_take (i := 14) rfl (by kernel_rfl) (by kernel_rfl) (by kernel_rfl) (by kernel_rfl) (Yq.of (v := .pointer (some ⟨mb, 0, none⟩)) (y_move rfl) rfl) (.p .h .nil) ?_
 refine anyS_take (i := 15) rfl (by kernel_rfl) (by kernel_rfl) (by kernel_rfl) (by kernel_rfl) (Yq.of (v := .pointer (some ⟨mb, 0, none⟩)) (y_nilP rfl) rfl) (.p .h .nil) ?_
 refine anyS_take (i := 16) rfl (by kernel_rfl) (by kernel_rfl) (by kernel_rfl) (by kernel_rfl) (Yq.of (v := .pointer (some ⟨mb, 9, none⟩)) (y_fieldAddr (o' := 9) rfl Try.underlying201 rfl Try.sizeOf2 (by decide) rfl) rfl) (.p .h .nil) ?_
 refine anyS_take (i := 18) rfl (by kernel_rfl) (by kernel_rfl) (by kernel_rfl) (by kernel_rfl) (Yq.of (v := .int .i64 s.toInt) (y_move rfl) rfl) (.p .h .nil) ?_
 refine anyS_all (rs := [3, 17]) (by kernel_rfl) (by simp) ?_
 intro i hi2; simp only [List.mem_cons, List.not_mem_nil, or_false] at hi2; rcases hi2 with rfl | rfl
 ·
  refine opS_0 rfl rfl ?_
  refine OpE.y (v := .slice sa sn sc) (y_load1 (v := .slice sa sn sc) rfl Try.isAgg69 (own1 (.t .h) rfl)) ?_
  refine ⟨.inr (.p .h .nil), ?_⟩
  refine anyS_all (rs := [17]) (by kernel_rfl) (by simp) ?_
  intro i hi; obtain rfl := List.mem_singleton.1 hi; clear hi
  refine opS_0 rfl rfl ?_
  refine OpE.y (v := .int .i64 q.toInt) (y_load1 (v := .int .i64 q.toInt) rfl Try.isAgg2 (own1 (.t .h) rfl)) ?_
  refine ⟨.inr (.p .h .nil), ?_⟩
  refine anyS_take (i := 19) rfl (by kernel_rfl) (by kernel_rfl) (by kernel_rfl) (by kernel_rfl) (Yq.of (v := .int .i64 ((q + s).toInt)) (y_add (a := q.toInt) (b := s.toInt) rfl rfl (i_add _ _)) rfl) (.p .h .nil) ?_
  refine anyS_take (i := 20) rfl (by kernel_rfl) (by kernel_rfl) (by kernel_rfl) (by kernel_rfl) (Yq.of (v := .int .i64 (((if (b64 (decide (al.toUInt64 = 0))) &&& 1 = 1 then 0 else (q + s).toUInt64).toInt64).toInt)) (y_callV (cap := #[.pointer (some ⟨b_1, 0, none⟩)]) (args := #[.int .i64 ((q + s).toInt)]) (args' := #[.int .i64 ((q + s).toInt), .pointer (some ⟨b_1, 0, none⟩)]) rfl Try.call241 (ev1 rfl) rfl (fun w hs => emit1_c (q + s) (b64 (decide (al.toUInt64 = 0))) b_1 w (own1 .h rfl w hs))) rfl) (.p .h .nil) ?_
  refine anyS_take (i := 21) rfl (by kernel_rfl) (by kernel_rfl) (by kernel_rfl) (by kernel_rfl) (Yq.of (v := .agg #[.bool (decide ((b64 (decide (al.toUInt64 = 0))) = 1)), .int .i64 (((if (b64 (decide (al.toUInt64 = 0))) &&& 1 = 1 then 0 else kk.toUInt64).toInt64).toInt), .int .i64 (((if (b64 (decide (al.toUInt64 = 0))) &&& 1 = 1 then 0 else v.toUInt64).toInt64).toInt), .int .i64 (((if (b64 (decide (al.toUInt64 = 0))) &&& 1 = 1 then 0 else (q + s).toUInt64).toInt64).toInt)]) (y_buildL (m := [(0, .bool (decide ((b64 (decide (al.toUInt64 = 0))) = 1))), (1, .int .i64 (((if (b64 (decide (al.toUInt64 = 0))) &&& 1 = 1 then 0 else kk.toUInt64).toInt64).toInt)), (2, .int .i64 (((if (b64 (decide (al.toUInt64 = 0))) &&& 1 = 1 then 0 else v.toUInt64).toInt64).toInt)), (3, .int .i64 (((if (b64 (decide (al.toUInt64 = 0))) &&& 1 = 1 then 0 else (q + s).toUInt64).toInt64).toInt))]) (vs := #[.bool (decide ((b64 (decide (al.toUInt64 = 0))) = 1)), .int .i64 (((if (b64 (decide (al.toUInt64 = 0))) &&& 1 = 1 then 0 else kk.toUInt64).toInt64).toInt), .int .i64 (((if (b64 (decide (al.toUInt64 = 0))) &&& 1 = 1 then 0 else v.toUInt64).toInt64).toInt), .int .i64 (((if (b64 (decide (al.toUInt64 = 0))) &&& 1 = 1 then 0 else (q + s).toUInt64).toInt64).toInt)]) (evc rfl (evc rfl (evc rfl (evc rfl evn)))) (fun w => by kernel_rfl)) rfl) (.p .h .nil) ?_
  refine anyS_all (rs := [22]) (by kernel_rfl) (by simp) ?_
  intro i hi; obtain rfl := List.mem_singleton.1 hi; clear hi
  refine opS_0 rfl rfl ?_
  refine OpE.y (v := .pointer (some ⟨aB sa, aO sa + (s.toInt.toNat) * 4, none⟩)) (y_idx (o := (s.toInt.toNat) * 4) rfl rfl Try.underlying69 Try.sizeOf23 (oslR (.t (.t .h))) ((fl_len recV_len _).trans (by first | omega | (simp only [List.length_set, List.length_take, List.length_drop]; done) | (simp only [List.length_set, List.length_take, List.length_drop]; omega))) (by decide) (by omega) (by omega) (by omega)) ?_
  refine ⟨.inr (.p .h .nil), ?_⟩
  refine anyS_all (rs := [23]) (by kernel_rfl) (by simp) ?_
  intro i hi; obtain rfl := List.mem_singleton.1 hi; clear hi
  refine opS_0 rfl rfl ?_
  refine e_storeL (enc := recV) (xs := xs) (y := (Rec.mk (decide ((b64 (decide (al.toUInt64 = 0))) = 1)) ((if (b64 (decide (al.toUInt64 = 0))) &&& 1 = 1 then 0 else kk.toUInt64).toInt64) ((if (b64 (decide (al.toUInt64 = 0))) &&& 1 = 1 then 0 else v.toUInt64).toInt64) ((if (b64 (decide (al.toUInt64 = 0))) &&& 1 = 1 then 0 else (q + s).toUInt64).toInt64))) recV_len recV_one (by decide) rfl rfl rfl Try.sizeOf23 (.t (.t .h)) (by (try simp only [List.length_set]); omega) ?_
  refine ⟨.inr (.p (.t .h) .nil), ?_⟩
  refine anyS_done (by kernel_rfl) ?_
  exact fin0 (.inl rfl) (.p (.t (.t .h)) (.p .h .nil)) Try.results226 (fun w' hs => ⟨rfl, by rw [emit_eq] at hs; exact hs⟩)
 ·
  refine opS_0 rfl rfl ?_
  refine OpE.y (v := .int .i64 q.toInt) (y_load1 (v := .int .i64 q.toInt) rfl Try.isAgg2 (own1 (.t .h) rfl)) ?_
  refine ⟨.inr (.p .h .nil), ?_⟩
  refine anyS_take (i := 19) rfl (by kernel_rfl) (by kernel_rfl) (by kernel_rfl) (by kernel_rfl) (Yq.of (v := .int .i64 ((q + s).toInt)) (y_add (a := q.toInt) (b := s.toInt) rfl rfl (i_add _ _)) rfl) (.p .h .nil) ?_
  refine anyS_take (i := 20) rfl (by kernel_rfl) (by kernel_rfl) (by kernel_rfl) (by kernel_rfl) (Yq.of (v := .int .i64 (((if (b64 (decide (al.toUInt64 = 0))) &&& 1 = 1 then 0 else (q + s).toUInt64).toInt64).toInt)) (y_callV (cap := #[.pointer (some ⟨b_1, 0, none⟩)]) (args := #[.int .i64 ((q + s).toInt)]) (args' := #[.int .i64 ((q + s).toInt), .pointer (some ⟨b_1, 0, none⟩)]) rfl Try.call241 (ev1 rfl) rfl (fun w hs => emit1_c (q + s) (b64 (decide (al.toUInt64 = 0))) b_1 w (own1 .h rfl w hs))) rfl) (.p .h .nil) ?_
  refine anyS_take (i := 21) rfl (by kernel_rfl) (by kernel_rfl) (by kernel_rfl) (by kernel_rfl) (Yq.of (v := .agg #[.bool (decide ((b64 (decide (al.toUInt64 = 0))) = 1)), .int .i64 (((if (b64 (decide (al.toUInt64 = 0))) &&& 1 = 1 then 0 else kk.toUInt64).toInt64).toInt), .int .i64 (((if (b64 (decide (al.toUInt64 = 0))) &&& 1 = 1 then 0 else v.toUInt64).toInt64).toInt), .int .i64 (((if (b64 (decide (al.toUInt64 = 0))) &&& 1 = 1 then 0 else (q + s).toUInt64).toInt64).toInt)]) (y_buildL (m := [(0, .bool (decide ((b64 (decide (al.toUInt64 = 0))) = 1))), (1, .int .i64 (((if (b64 (decide (al.toUInt64 = 0))) &&& 1 = 1 then 0 else kk.toUInt64).toInt64).toInt)), (2, .int .i64 (((if (b64 (decide (al.toUInt64 = 0))) &&& 1 = 1 then 0 else v.toUInt64).toInt64).toInt)), (3, .int .i64 (((if (b64 (decide (al.toUInt64 = 0))) &&& 1 = 1 then 0 else (q + s).toUInt64).toInt64).toInt))]) (vs := #[.bool (decide ((b64 (decide (al.toUInt64 = 0))) = 1)), .int .i64 (((if (b64 (decide (al.toUInt64 = 0))) &&& 1 = 1 then 0 else kk.toUInt64).toInt64).toInt), .int .i64 (((if (b64 (decide (al.toUInt64 = 0))) &&& 1 = 1 then 0 else v.toUInt64).toInt64).toInt), .int .i64 (((if (b64 (decide (al.toUInt64 = 0))) &&& 1 = 1 then 0 else (q + s).toUInt64).toInt64).toInt)]) (evc rfl (evc rfl (evc rfl (evc rfl evn)))) (fun w => by kernel_rfl)) rfl) (.p .h .nil) ?_
  refine anyS_all (rs := [3]) (by kernel_rfl) (by simp) ?_
  intro i hi; obtain rfl := List.mem_singleton.1 hi; clear hi
  refine opS_0 rfl rfl ?_
  refine OpE.y (v := .slice sa sn sc) (y_load1 (v := .slice sa sn sc) rfl Try.isAgg69 (own1 (.t .h) rfl)) ?_
  refine ⟨.inr (.p .h .nil), ?_⟩
  refine anyS_all (rs := [22]) (by kernel_rfl) (by simp) ?_
  intro i hi; obtain rfl := List.mem_singleton.1 hi; clear hi
  refine opS_0 rfl rfl ?_
  refine OpE.y (v := .pointer (some ⟨aB sa, aO sa + (s.toInt.toNat) * 4, none⟩)) (y_idx (o := (s.toInt.toNat) * 4) rfl rfl Try.underlying69 Try.sizeOf23 (oslR (.t (.t .h))) ((fl_len recV_len _).trans (by first | omega | (simp only [List.length_set, List.length_take, List.length_drop]; done) | (simp only [List.length_set, List.length_take, List.length_drop]; omega))) (by decide) (by omega) (by omega) (by omega)) ?_
  refine ⟨.inr (.p .h .nil), ?_⟩
  refine anyS_all (rs := [23]) (by kernel_rfl) (by simp) ?_
  intro i hi; obtain rfl := List.mem_singleton.1 hi; clear hi
  refine opS_0 rfl rfl ?_
  refine e_storeL (enc := recV) (xs := xs) (y := (Rec.mk (decide ((b64 (decide (al.toUInt64 = 0))) = 1)) ((if (b64 (decide (al.toUInt64 = 0))) &&& 1 = 1 then 0 else kk.toUInt64).toInt64) ((if (b64 (decide (al.toUInt64 = 0))) &&& 1 = 1 then 0 else v.toUInt64).toInt64) ((if (b64 (decide (al.toUInt64 = 0))) &&& 1 = 1 then 0 else (q + s).toUInt64).toInt64))) recV_len recV_one (by decide) rfl rfl rfl Try.sizeOf23 (.t (.t .h)) (by (try simp only [List.length_set]); omega) ?_
  refine ⟨.inr (.p (.t .h) .nil), ?_⟩
  refine anyS_done (by kernel_rfl) ?_
  exact fin0 (.inl rfl) (.p (.t (.t .h)) (.p .h .nil)) Try.results226 (fun w' hs => ⟨rfl, by rw [emit_eq] at hs; exact hs⟩)
theorem run_c (mb : Nat) (Rg : List Int64) (sa : Option Addr) (sn sc : Nat) (xs : List Rec) (q : Int64) (ga : Option Addr) (gn gc : Nat) (l : List Opc) (kz : Int) (w : World) (hR : Rg.length = 8) (hx : xs.length = sn) (hk : (sn : Int) = kz) (hp : partOk kz l = true) (hn : l.length = gn) (hb : sn ≤ 1000000) (hr : Rds w ga (l.flatMap opcV)) (hap : 0 < (l.flatMap opcV).length → aB ga ∉ (([cel mb 201 (macV Rg sa sn sc q), osl sa sc sn 4 23 (xs.flatMap recV)] : List Res).flatMap Res.fp)) (hA : SH w (([cel mb 201 (macV Rg sa sn sc q), osl sa sc sn 4 23 (xs.flatMap recV)] : List Res).flatMap Res.fp) [cel mb 201 (macV Rg sa sn sc q), osl sa sc sn 4 23 (xs.flatMap recV)] w) : Calls Try.prog 173 #[.pointer (some ⟨mb, 0, none⟩), .slice ga gn gc] w (fun e w' => e = .returned (.tuple #[]) ∧ SH w (([cel mb 201 (macV Rg sa sn sc q), osl sa sc sn 4 23 (xs.flatMap recV)] : List Res).flatMap Res.fp) [cel mb 201 (macV ((runM q ⟨Rg, xs⟩ l).r) sa sn sc q), osl sa sc sn 4 23 (((runM q ⟨Rg, xs⟩ l).s).flatMap recV)] w') := by
 refine calls_S (n := 53) (σ0 := (upd (upd fr0 0 (.pointer (some ⟨mb, 0, none⟩))) 1 (.slice ga gn gc))) (D := (([cel mb 201 (macV Rg sa sn sc q), osl sa sc sn 4 23 (xs.flatMap recV)] : List Res).flatMap Res.fp)) (A := [cel mb 201 (macV Rg sa sn sc q), osl sa sc sn 4 23 (xs.flatMap recV)]) Try.func173 rfl Try.ntmps173 rfl (a2_fr _ _) hA ?_
 have hl40 := part_len hp
 refine wpS_seq ?_
 refine wpS_region ?_
 refine s_e rfl ?_
 refine e_box (v := .pointer (some ⟨mb, 0, none⟩)) (l := [.pointer (some ⟨mb, 0, none⟩)]) rfl rfl ?_
 intro b_1
 refine wpL_nil ?_
 refine thenS_n ?_
 refine wpS_seq ?_
 refine wpS_region ?_
 refine s_y (v := .slice ga gn gc) (y_move rfl) rfl ?_
 refine s_e rfl ?_
 refine e_call (f := 225) (args := #[.slice ga gn gc]) (X := Nat) (A := []) (M := [cel b_1 198 [.pointer (some ⟨mb, 0, none⟩)], cel mb 201 (macV Rg sa sn sc q), osl sa sc sn 4 23 (xs.flatMap recV)]) (V := fun x : Nat => .func (.func 240) #[] #[.pointer (some ⟨x, 0, none⟩)]) (A' := fun x : Nat => [cel x 82 [.slice ga gn gc]]) (C := fun _ => True) Try.call225 (ev1 rfl) (.p .h (.p .h (.p .h .nil))) (fun w hs => valsO_c ga gn gc w) ?_
 rintro b_2 -
 refine wpL_nil ?_
 refine thenS_n ?_
 refine wpS_block ?_
 refine wpS_rangeFunc (f := 240) (cap := #[.pointer (some ⟨b_2, 0, none⟩)]) (enc := fun k => #[.agg #[.int .i64 ((l.getD k default).o0), .int .i64 ((l.getD k default).o1), .int .i64 ((l.getD k default).o2), .int .i64 ((l.getD k default).o3), .int .i64 ((l.getD k default).o4), .int .i64 (((l.getD k default).o5).toInt)]]) (N := gn) (rd := fun z => z = b_2 ∨ 0 < l.length ∧ z = aB ga) (A := [cel b_1 198 [.pointer (some ⟨mb, 0, none⟩)], cel mb 201 (macV Rg sa sn sc q), osl sa sc sn 4 23 (xs.flatMap recV)]) (M := [cel b_2 82 [.slice ga gn gc]]) (fun k A => A = [cel b_1 198 [.pointer (some ⟨mb, 0, none⟩)], cel mb 201 (macV ((runM q ⟨Rg, xs⟩ (l.take k)).r) sa sn sc q), osl sa sc sn 4 23 (((runM q ⟨Rg, xs⟩ (l.take k)).s).flatMap recV)]) (fun k e A => False) rfl Try.call240 (by kernel_rfl) (fun _ => rfl) (.p (.t .h) (.p (.t .h) (.p (.t .h) (.p .h .nil)))) rfl (fun w hs => (valsO_at b_2 ga gn gc l w (own1 (.t (.t (.t .h))) rfl w hs) hn ((oldRD' hr hap) w hs) (by omega)).it) (fun w hs b hb => by rcases hb with rfl | ⟨hl, rfl⟩; exact apM (A := [cel b_1 198 [.pointer (some ⟨mb, 0, none⟩)], cel mb 201 (macV Rg sa sn sc q), osl sa sc sn 4 23 (xs.flatMap recV)]) hs .h (by simp [cel, blk]); exact apOld hs (rdBlk hr (fl_pos opcV_len (by decide) hl)) (hap (fl_pos opcV_len (by decide) hl))) ?_ ?_ ?_
 ·
  rintro k A' hk_3 rfl w_3 l_3 hs_3
  refine wpS_region ?_
  refine s_e rfl ?_
  refine e_alloc (l := [.int .i64 0, .int .i64 0, .int .i64 0, .int .i64 0, .int .i64 0, .int .i64 0]) Try.zeroValue86 rfl ?_
  intro b_4
  refine s_e0 ?_
  refine e_store (vs := [.int .i64 ((l.getD k default).o0), .int .i64 ((l.getD k default).o1), .int .i64 ((l.getD k default).o2), .int .i64 ((l.getD k default).o3), .int .i64 ((l.getD k default).o4), .int .i64 (((l.getD k default).o5).toInt)]) (l' := [.int .i64 ((l.getD k default).o0), .int .i64 ((l.getD k default).o1), .int .i64 ((l.getD k default).o2), .int .i64 ((l.getD k default).o3), .int .i64 ((l.getD k default).o4), .int .i64 (((l.getD k default).o5).toInt)]) rfl rfl rfl rfl Try.sizeOf86 .h (Nat.le_of_ble_eq_true rfl) rfl ?_
  refine wpL_nil ?_
  refine asg_n fun w2_3 hs2_3 => ?_
  have hop := part_at hp (i := k) (by omega)
  obtain ⟨ho1, ho2, ho3, ho4, ho5, ho6, ho7, ho8, ho9, ho10⟩ := op_regs hop
  have hrk : (runM q ⟨Rg, xs⟩ (l.take k)).r.length = 8 := (runM_r _ _ _).trans hR
  have hsk : (runM q ⟨Rg, xs⟩ (l.take k)).s.length = sn := (runM_s _ _ _).trans hx
  have hst := runM_step (q := q) (m := ⟨Rg, xs⟩) (l := l) (i := k) (by omega)
  refine wpS_block ?_
  refine wpS_seq ?_
  refine wpS_lex (by kernel_rfl) (by kernel_rfl) ?_
  refine x_y (v := .pointer (some ⟨mb, 0, none⟩)) (y_load1 rfl Try.isAgg198 (own1 (.t .h) rfl)) rfl ?_
  refine x_y (v := .pointer (some ⟨b_4, 2, none⟩)) (y_fieldAddr (o' := 2) rfl Try.underlying86 rfl Try.sizeOf3 (by decide) rfl) rfl ?_
  refine x_y (v := .int .i64 ((l.getD k default).o2)) (y_load1 rfl Try.isAgg3 (own1 .h rfl)) rfl ?_
  refine x_y (v := .pointer (some ⟨mb, 0, none⟩)) (y_nilP rfl) rfl ?_
  refine x_y (v := .pointer (some ⟨mb, 0, none⟩)) (y_fieldAddr (o' := 0) rfl Try.underlying201 rfl Try.sizeOf199 (by decide) rfl) rfl ?_
  refine x_y (v := .pointer (some ⟨mb, 0 + (((l.getD k default).o2).toNat) * 1, none⟩)) (y_idxA (o' := 0 + (((l.getD k default).o2).toNat) * 1) rfl rfl Try.underlying199 Try.sizeOf2 (by omega) (by omega) (by omega)) rfl ?_
  refine x_y (v := .int .i64 ((((runM q ⟨Rg, xs⟩ (l.take k)).r).getD (((l.getD k default).o2).toNat) 0).toInt)) (y_load1 rfl Try.isAgg2 (own1 (.t (.t .h)) (mac_get (by omega)))) rfl ?_
  refine x_y (v := .pointer (some ⟨mb, 0, none⟩)) (y_load1 rfl Try.isAgg198 (own1 (.t .h) rfl)) rfl ?_
  refine x_y (v := .pointer (some ⟨b_4, 3, none⟩)) (y_fieldAddr (o' := 3) rfl Try.underlying86 rfl Try.sizeOf3 (by decide) rfl) rfl ?_
  refine x_y (v := .int .i64 ((l.getD k default).o3)) (y_load1 rfl Try.isAgg3 (own1 .h rfl)) rfl ?_
  refine x_y (v := .pointer (some ⟨mb, 0, none⟩)) (y_nilP rfl) rfl ?_
  refine x_y (v := .pointer (some ⟨mb, 0, none⟩)) (y_fieldAddr (o' := 0) rfl Try.underlying201 rfl Try.sizeOf199 (by decide) rfl) rfl ?_
  refine x_y (v := .pointer (some ⟨mb, 0 + (((l.getD k default).o3).toNat) * 1, none⟩)) (y_idxA (o' := 0 + (((l.getD k default).o3).toNat) * 1) rfl rfl Try.underlying199 Try.sizeOf2 (by omega) (by omega) (by omega)) rfl ?_
  refine x_y (v := .int .i64 ((((runM q ⟨Rg, xs⟩ (l.take k)).r).getD (((l.getD k default).o3).toNat) 0).toInt)) (y_load1 rfl Try.isAgg2 (own1 (.t (.t .h)) (mac_get (by omega)))) rfl ?_
  refine x_y (v := .pointer (some ⟨mb, 0, none⟩)) (y_load1 rfl Try.isAgg198 (own1 (.t .h) rfl)) rfl ?_
  refine x_y (v := .pointer (some ⟨b_4, 4, none⟩)) (y_fieldAddr (o' := 4) rfl Try.underlying86 rfl Try.sizeOf3 (by decide) rfl) rfl ?_
  refine x_y (v := .int .i64 ((l.getD k default).o4)) (y_load1 rfl Try.isAgg3 (own1 .h rfl)) rfl ?_
  refine x_y (v := .pointer (some ⟨mb, 0, none⟩)) (y_nilP rfl) rfl ?_
  refine x_y (v := .pointer (some ⟨mb, 0, none⟩)) (y_fieldAddr (o' := 0) rfl Try.underlying201 rfl Try.sizeOf199 (by decide) rfl) rfl ?_
  refine x_y (v := .pointer (some ⟨mb, 0 + (((l.getD k default).o4).toNat) * 1, none⟩)) (y_idxA (o' := 0 + (((l.getD k default).o4).toNat) * 1) rfl rfl Try.underlying199 Try.sizeOf2 (by omega) (by omega) (by omega)) rfl ?_
  refine x_y (v := .int .i64 ((((runM q ⟨Rg, xs⟩ (l.take k)).r).getD (((l.getD k default).o4).toNat) 0).toInt)) (y_load1 rfl Try.isAgg2 (own1 (.t (.t .h)) (mac_get (by omega)))) rfl ?_
  refine x_y (v := .int .i64 ((((runM q ⟨Rg, xs⟩ (l.take k)).r).getD (((l.getD k default).o2).toNat) 0).toInt)) (y_assign rfl) rfl ?_
  refine x_y (v := .int .i64 ((((runM q ⟨Rg, xs⟩ (l.take k)).r).getD (((l.getD k default).o3).toNat) 0).toInt)) (y_assign rfl) rfl ?_
  refine x_y (v := .int .i64 ((((runM q ⟨Rg, xs⟩ (l.take k)).r).getD (((l.getD k default).o4).toNat) 0).toInt)) (y_assign rfl) rfl ?_
  refine x_nil ?_
  refine thenS_n ?_
  refine wpS_seq ?_
  refine wpS_region ?_
  refine s_y (v := .pointer (some ⟨b_4, 0, none⟩)) (y_fieldAddr (o' := 0) rfl Try.underlying86 rfl Try.sizeOf3 (by decide) rfl) rfl ?_
  refine s_y (v := .int .i64 ((l.getD k default).o0)) (y_load1 rfl Try.isAgg3 (own1 .h rfl)) rfl ?_
  refine s_y (v := .bool (decide (((l.getD k default).o0 : Int) = 12))) (y_eql (a := (l.getD k default).o0) (b := 12) rfl rfl rfl) rfl ?_
  refine wpL_nil ?_
  refine thenS_n ?_
  refine wpS_cond (t := decide (((l.getD k default).o0 : Int) = 12)) rfl (fun b5 => ?_) (fun b5 => ?_)
  ·
   have p5 := of_decide_eq_true b5
   have hsl2 := op_slot hop (by omega)
   refine wpS_region ?_
   refine s_y (v := .pointer (some ⟨mb, 0, none⟩)) (y_load1 rfl Try.isAgg198 (own1 (.t .h) rfl)) rfl ?_
   refine s_y (v := .pointer (some ⟨b_4, 5, none⟩)) (y_fieldAddr (o' := 5) rfl Try.underlying86 rfl Try.sizeOf2 (by decide) rfl) rfl ?_
   refine s_y (v := .int .i64 (((l.getD k default).o5).toInt)) (y_load1 rfl Try.isAgg2 (own1 .h rfl)) rfl ?_
   refine s_y (v := .int .i64 ((((runM q ⟨Rg, xs⟩ (l.take k)).r).getD (((l.getD k default).o2).toNat) 0).toInt)) (y_move rfl) rfl ?_
   refine s_y (v := .int .i64 ((((runM q ⟨Rg, xs⟩ (l.take k)).r).getD (((l.getD k default).o3).toNat) 0).toInt)) (y_move rfl) rfl ?_
   refine s_y (v := .int .i64 ((((runM q ⟨Rg, xs⟩ (l.take k)).r).getD (((l.getD k default).o4).toNat) 0).toInt)) (y_move rfl) rfl ?_
   refine s_e rfl ?_
   refine e_call (f := 226) (args := #[.pointer (some ⟨mb, 0, none⟩), .int .i64 (((l.getD k default).o5).toInt), .int .i64 ((((runM q ⟨Rg, xs⟩ (l.take k)).r).getD (((l.getD k default).o2).toNat) 0).toInt), .int .i64 ((((runM q ⟨Rg, xs⟩ (l.take k)).r).getD (((l.getD k default).o3).toNat) 0).toInt), .int .i64 ((((runM q ⟨Rg, xs⟩ (l.take k)).r).getD (((l.getD k default).o4).toNat) 0).toInt)]) (X := Unit) (A := [cel mb 201 (macV ((runM q ⟨Rg, xs⟩ (l.take k)).r) sa sn sc q), osl sa sc sn 4 23 (((runM q ⟨Rg, xs⟩ (l.take k)).s).flatMap recV)]) (M := [cel b_4 86 [.int .i64 ((l.getD k default).o0), .int .i64 ((l.getD k default).o1), .int .i64 ((l.getD k default).o2), .int .i64 ((l.getD k default).o3), .int .i64 ((l.getD k default).o4), .int .i64 (((l.getD k default).o5).toInt)], cel b_1 198 [.pointer (some ⟨mb, 0, none⟩)]]) (V := fun _ => .tuple #[]) (A' := fun _ => [cel mb 201 (macV ((runM q ⟨Rg, xs⟩ (l.take k)).r) sa sn sc q), osl sa sc sn 4 23 ((((runM q ⟨Rg, xs⟩ (l.take k)).s).set ((l.getD k default).o5).toInt.toNat (emitR (q + ((l.getD k default).o5)) (((runM q ⟨Rg, xs⟩ (l.take k)).r).getD (((l.getD k default).o2).toNat) 0) (((runM q ⟨Rg, xs⟩ (l.take k)).r).getD (((l.getD k default).o3).toNat) 0) (((runM q ⟨Rg, xs⟩ (l.take k)).r).getD (((l.getD k default).o4).toNat) 0))).flatMap recV)]) (C := fun _ => True) Try.call226 (ev5 rfl rfl rfl rfl rfl) (.p (.t (.t .h)) (.p (.t (.t .h)) (.p .h (.p .h .nil)))) (fun w hs => (emit_c mb ((runM q ⟨Rg, xs⟩ (l.take k)).r) sa sn sc ((runM q ⟨Rg, xs⟩ (l.take k)).s) q ((l.getD k default).o5) (((runM q ⟨Rg, xs⟩ (l.take k)).r).getD (((l.getD k default).o2).toNat) 0) (((runM q ⟨Rg, xs⟩ (l.take k)).r).getD (((l.getD k default).o3).toNat) 0) (((runM q ⟨Rg, xs⟩ (l.take k)).r).getD (((l.getD k default).o4).toNat) 0) w (by omega) (by omega) (by omega) (by omega) (SH.lend hs)).mono (fun e w2 hx => ⟨(), hx.1, hx.2, trivial⟩)) ?_
   rintro ⟨⟩ -
   have hem1 : (((runM q ⟨Rg, xs⟩ (l.take k)).s).set ((l.getD k default).o5).toInt.toNat (emitR (q + ((l.getD k default).o5)) (((runM q ⟨Rg, xs⟩ (l.take k)).r).getD (((l.getD k default).o2).toNat) 0) (((runM q ⟨Rg, xs⟩ (l.take k)).r).getD (((l.getD k default).o3).toNat) 0) (((runM q ⟨Rg, xs⟩ (l.take k)).r).getD (((l.getD k default).o4).toNat) 0))) = (runM q ⟨Rg, xs⟩ (l.take (k + 1))).s := by rw [hst]; unfold stepM; rw [if_pos (by omega)]; rfl
   have hem2 : (runM q ⟨Rg, xs⟩ (l.take k)).r = (runM q ⟨Rg, xs⟩ (l.take (k + 1))).r := by rw [hst]; unfold stepM; rw [if_pos (by omega)]
   rw [hem1, hem2]
   refine wpL_nil ?_
   refine blockS_n ?_
   exact rnd_n ⟨[cel b_1 198 [.pointer (some ⟨mb, 0, none⟩)], cel mb 201 (macV ((runM q ⟨Rg, xs⟩ (l.take (k + 1))).r) sa sn sc q), osl sa sc sn 4 23 (((runM q ⟨Rg, xs⟩ (l.take (k + 1))).s).flatMap recV)], .p (.t (.t (.t .h))) (.p .h (.p .h .nil)), rfl⟩
  ·
   have p5 := of_decide_eq_false b5
   refine wpS_anyL [cel b_4 86 [.int .i64 ((l.getD k default).o0), .int .i64 ((l.getD k default).o1), .int .i64 ((l.getD k default).o2), .int .i64 ((l.getD k default).o3), .int .i64 ((l.getD k default).o4), .int .i64 (((l.getD k default).o5).toInt)], cel b_1 198 [.pointer (some ⟨mb, 0, none⟩)]] [] (by kernel_rfl) ?_
   refine anyS_take (i := 0) rfl (by kernel_rfl) (by kernel_rfl) (by kernel_rfl) (by kernel_rfl) (Yq.of (v := .pointer (some ⟨mb, 0, none⟩)) (y_load1 rfl Try.isAgg198 (own1 (.t .h) rfl)) rfl) (.p .h (.p .h .nil)) ?_
   refine anyS_take (i := 1) rfl (by kernel_rfl) (by kernel_rfl) (by kernel_rfl) (by kernel_rfl) (Yq.of (v := .pointer (some ⟨b_4, 1, none⟩)) (y_fieldAddr (o' := 1) rfl Try.underlying86 rfl Try.sizeOf3 (by decide) rfl) rfl) (.p .h (.p .h .nil)) ?_
   refine anyS_take (i := 2) rfl (by kernel_rfl) (by kernel_rfl) (by kernel_rfl) (by kernel_rfl) (Yq.of (v := .int .i64 ((l.getD k default).o1)) (y_load1 rfl Try.isAgg3 (own1 .h rfl)) rfl) (.p .h (.p .h .nil)) ?_
   refine anyS_take (i := 3) rfl (by kernel_rfl) (by kernel_rfl) (by kernel_rfl) (by kernel_rfl) (Yq.of (v := .agg #[.int .i64 ((l.getD k default).o0), .int .i64 ((l.getD k default).o1), .int .i64 ((l.getD k default).o2), .int .i64 ((l.getD k default).o3), .int .i64 ((l.getD k default).o4), .int .i64 (((l.getD k default).o5).toInt)]) (y_loadN rfl Try.isAgg86 Try.sizeOf86 (ownN .h rfl)) rfl) (.p .h (.p .h .nil)) ?_
   refine anyS_take (i := 4) rfl (by kernel_rfl) (by kernel_rfl) (by kernel_rfl) (by kernel_rfl) (Yq.of (v := .int .i64 ((((runM q ⟨Rg, xs⟩ (l.take k)).r).getD (((l.getD k default).o2).toNat) 0).toInt)) (y_move rfl) rfl) (.p .h (.p .h .nil)) ?_
   refine anyS_take (i := 5) rfl (by kernel_rfl) (by kernel_rfl) (by kernel_rfl) (by kernel_rfl) (Yq.of (v := .int .i64 ((((runM q ⟨Rg, xs⟩ (l.take k)).r).getD (((l.getD k default).o3).toNat) 0).toInt)) (y_move rfl) rfl) (.p .h (.p .h .nil)) ?_
   refine anyS_take (i := 6) rfl (by kernel_rfl) (by kernel_rfl) (by kernel_rfl) (by kernel_rfl) (Yq.of (v := .int .i64 ((((runM q ⟨Rg, xs⟩ (l.take k)).r).getD (((l.getD k default).o4).toNat) 0).toInt)) (y_move rfl) rfl) (.p .h (.p .h .nil)) ?_
   refine anyS_take (i := 7) rfl (by kernel_rfl) (by kernel_rfl) (by kernel_rfl) (by kernel_rfl) (Yq.of (v := .int .i64 ((madeV (l.getD k default) (((runM q ⟨Rg, xs⟩ (l.take k)).r).getD (((l.getD k default).o2).toNat) 0) (((runM q ⟨Rg, xs⟩ (l.take k)).r).getD (((l.getD k default).o3).toNat) 0) (((runM q ⟨Rg, xs⟩ (l.take k)).r).getD (((l.getD k default).o4).toNat) 0)).toInt)) (y_call (args := #[.agg #[.int .i64 ((l.getD k default).o0), .int .i64 ((l.getD k default).o1), .int .i64 ((l.getD k default).o2), .int .i64 ((l.getD k default).o3), .int .i64 ((l.getD k default).o4), .int .i64 (((l.getD k default).o5).toInt)], .int .i64 ((((runM q ⟨Rg, xs⟩ (l.take k)).r).getD (((l.getD k default).o2).toNat) 0).toInt), .int .i64 ((((runM q ⟨Rg, xs⟩ (l.take k)).r).getD (((l.getD k default).o3).toNat) 0).toInt), .int .i64 ((((runM q ⟨Rg, xs⟩ (l.take k)).r).getD (((l.getD k default).o4).toNat) 0).toInt)]) Try.call227 (ev4 rfl rfl rfl rfl) (fun w hs => made_c (l.getD k default) (((runM q ⟨Rg, xs⟩ (l.take k)).r).getD (((l.getD k default).o2).toNat) 0) (((runM q ⟨Rg, xs⟩ (l.take k)).r).getD (((l.getD k default).o3).toNat) 0) (((runM q ⟨Rg, xs⟩ (l.take k)).r).getD (((l.getD k default).o4).toNat) 0) w)) rfl) (.p .h (.p .h .nil)) ?_
   refine anyS_take (i := 8) rfl (by kernel_rfl) (by kernel_rfl) (by kernel_rfl) (by kernel_rfl) (Yq.of (v := .pointer (some ⟨mb, 0, none⟩)) (y_nilP rfl) rfl) (.p .h (.p .h .nil)) ?_
   refine anyS_take (i := 9) rfl (by kernel_rfl) (by kernel_rfl) (by kernel_rfl) (by kernel_rfl) (Yq.of (v := .pointer (some ⟨mb, 0, none⟩)) (y_fieldAddr (o' := 0) rfl Try.underlying201 rfl Try.sizeOf199 (by decide) rfl) rfl) (.p .h (.p .h .nil)) ?_
   refine anyS_take (i := 10) rfl (by kernel_rfl) (by kernel_rfl) (by kernel_rfl) (by kernel_rfl) (Yq.of (v := .pointer (some ⟨mb, 0 + (((l.getD k default).o1).toNat) * 1, none⟩)) (y_idxA (o' := 0 + (((l.getD k default).o1).toNat) * 1) rfl rfl Try.underlying199 Try.sizeOf2 (by omega) (by omega) (by omega)) rfl) (.p .h (.p .h .nil)) ?_
   refine anyS_all (rs := [11]) (by kernel_rfl) (by simp) ?_
   intro i hi; obtain rfl := List.mem_singleton.1 hi; clear hi
   refine opS_0 rfl rfl ?_
   have hem2 : (runM q ⟨Rg, xs⟩ (l.take k)).s = (runM q ⟨Rg, xs⟩ (l.take (k + 1))).s := by rw [hst]; unfold stepM; rw [if_neg (by omega)]
   have hem1 : (runM q ⟨Rg, xs⟩ (l.take k)).r.set (((l.getD k default).o1).toNat) (madeV (l.getD k default) (((runM q ⟨Rg, xs⟩ (l.take k)).r).getD (((l.getD k default).o2).toNat) 0) (((runM q ⟨Rg, xs⟩ (l.take k)).r).getD (((l.getD k default).o3).toNat) 0) (((runM q ⟨Rg, xs⟩ (l.take k)).r).getD (((l.getD k default).o4).toNat) 0)) = (runM q ⟨Rg, xs⟩ (l.take (k + 1))).r := by rw [hst]; unfold stepM; rw [if_neg (by omega)]; rfl
   refine e_store (vs := [.int .i64 ((madeV (l.getD k default) (((runM q ⟨Rg, xs⟩ (l.take k)).r).getD (((l.getD k default).o2).toNat) 0) (((runM q ⟨Rg, xs⟩ (l.take k)).r).getD (((l.getD k default).o3).toNat) 0) (((runM q ⟨Rg, xs⟩ (l.take k)).r).getD (((l.getD k default).o4).toNat) 0)).toInt)]) (l' := (macV ((runM q ⟨Rg, xs⟩ (l.take (k + 1))).r) sa sn sc q)) rfl rfl rfl rfl Try.sizeOf2 (.t (.t .h)) (by show _ ≤ 10; simp only [List.length_singleton]; omega) (mac_set hrk (by omega) hem1) ?_
   rw [hem2]
   refine ⟨.inr (.p (.t .h) (.p (.t .h) .nil)), ?_⟩
   refine anyS_done (by kernel_rfl) ?_
   refine blockS_n ?_
   exact rnd_n ⟨[cel b_1 198 [.pointer (some ⟨mb, 0, none⟩)], cel mb 201 (macV ((runM q ⟨Rg, xs⟩ (l.take (k + 1))).r) sa sn sc q), osl sa sc sn 4 23 (((runM q ⟨Rg, xs⟩ (l.take (k + 1))).s).flatMap recV)], .p (.t (.t .h)) (.p .h (.p (.t .h) .nil)), rfl⟩
 ·
  rintro d_3 A' rfl
  refine blockS_n ?_
  exact fin0 (.inl rfl) (.p .h (.p (.t .h) (.p (.t .h) .nil))) Try.results173 (fun w' hs => ⟨rfl, by rw [List.take_of_length_le (by omega)] at hs; exact hs⟩)
 ·
  intro _ _ _ _ _ h; exact h.elim
def doneC (b : Bool) (l : List Opc) (u v : Int64) : Int64 := if b = true then doneP l u v else 0
def mapC (b : Bool) (k : Int) (l : List Opc) (nn u v : Int64) : List Rec := if b = true then mapP k l nn u v else []
theorem chk_no {k : Int} {a b c : List Opc} (h : ¬ chk11 k a b c = 0) : chkB k a b c = false := by
  unfold chk11 at h
  split at h
  · exact absurd rfl h
  · exact Bool.eq_false_iff.2 (by assumption)
theorem i_mulZ {u : Int64} {k : Int} (h1 : 1 ≤ k) (h2 : k ≤ 4) : IntKind.i64.wrap (u.toInt * k) = (u * Int64.ofInt k).toInt := by
  have e : k = (Int64.ofInt k).toInt := by
    have : k = 1 ∨ k = 2 ∨ k = 3 ∨ k = 4 := by omega
    rcases this with h | h | h | h <;> subst h <;> rfl
  have h3 := i_mul u (Int64.ofInt k)
  rw [← e] at h3
  exact h3
theorem mapC_len {k : Int} {a b c l : List Opc} {nn u v : Int64} : (mapC (chkB k a b c) k l nn u v).length ≤ 4 := by
  unfold mapC
  split
  · have h := chk_bd (by assumption)
    unfold mapP
    rw [runM_s]
    show (List.replicate k.toNat deadR).length ≤ 4
    rw [List.length_replicate]
    omega
  · simp
theorem rep_next (j : Nat) : List.replicate j deadR ++ [Rec.mk true 0 0 0] = List.replicate (j + 1) deadR := List.replicate_succ'.symm
theorem done_c (k : Int) (a1 a2 a3 : Option Addr) (n1 c1 n2 c2 n3 c3 : Nat) (l1 l2 l3 : List Opc) (ga : Option Addr) (gn gc : Nat) (l : List Opc) (u v : Int64) (w : World) (hn1 : l1.length = n1) (hr1 : Rds w a1 (l1.flatMap opcV)) (hb1 : n1 ≤ 1000000) (hn2 : l2.length = n2) (hr2 : Rds w a2 (l2.flatMap opcV)) (hb2 : n2 ≤ 1000000) (hn3 : l3.length = n3) (hr3 : Rds w a3 (l3.flatMap opcV)) (hb3 : n3 ≤ 1000000) (hn : l.length = gn) (hr : Rds w ga (l.flatMap opcV)) (hb : gn ≤ 1000000) (hd : chkB k l1 l2 l3 = true → partOk 0 l = true) : Pure Try.prog 175 #[.agg #[.int .i64 k, .slice a1 n1 c1, .slice a2 n2 c2, .slice a3 n3 c3], .slice ga gn gc, .int .i64 u.toInt, .int .i64 v.toInt] w (.int .i64 ((doneC (chkB k l1 l2 l3) l u v).toInt)) := by
 refine calls_S (n := 33) (σ0 := (upd (upd (upd (upd fr0 0 (.agg #[.int .i64 k, .slice a1 n1 c1, .slice a2 n2 c2, .slice a3 n3 c3])) 1 (.slice ga gn gc)) 2 (.int .i64 u.toInt)) 3 (.int .i64 v.toInt))) (D := []) (A := []) Try.func175 rfl Try.ntmps175 rfl (a4_fr _ _ _ _) (SH.start w) ?_
 refine wpS_seq ?_
 refine wpS_region ?_
 refine s_e rfl ?_
 refine e_box (v := .agg #[.int .i64 k, .slice a1 n1 c1, .slice a2 n2 c2, .slice a3 n3 c3]) (l := [.int .i64 k, .slice a1 n1 c1, .slice a2 n2 c2, .slice a3 n3 c3]) rfl rfl ?_
 intro b_1
 refine s_y (v := .int .i64 0) (y_assign rfl) rfl ?_
 refine wpL_nil ?_
 refine thenS_n ?_
 refine wpS_seq ?_
 refine wpS_seq ?_
 refine wpS_region ?_
 refine s_y (v := .agg #[.int .i64 k, .slice a1 n1 c1, .slice a2 n2 c2, .slice a3 n3 c3]) (y_loadN rfl Try.isAgg84 Try.sizeOf84 (ownN .h rfl)) rfl ?_
 refine s_y (v := .int .i64 (chk11 k l1 l2 l3)) (y_call (args := #[.agg #[.int .i64 k, .slice a1 n1 c1, .slice a2 n2 c2, .slice a3 n3 c3]]) Try.call84 (ev1 rfl) (fun w hs => check_c k a1 a2 a3 n1 c1 n2 c2 n3 c3 l1 l2 l3 w hn1 ((oldR hr1) w hs) (by omega) hn2 ((oldR hr2) w hs) (by omega) hn3 ((oldR hr3) w hs) (by omega))) rfl ?_
 refine s_y (v := .bool (decide ((chk11 k l1 l2 l3 : Int) ≠ 0))) (y_neq (a := chk11 k l1 l2 l3) (b := 0) rfl rfl rfl) rfl ?_
 refine wpL_nil ?_
 refine thenS_n ?_
 refine wpS_cond (t := decide ((chk11 k l1 l2 l3 : Int) ≠ 0)) rfl (fun b2 => ?_) (fun b2 => ?_)
 ·
  have p2 := of_decide_eq_true b2
  have hno : chkB k l1 l2 l3 = false := chk_no p2
  refine wpS_seq ?_
  refine wpS_region ?_
  refine s_y (v := .int .i64 0) (y_assign rfl) rfl ?_
  refine wpL_nil ?_
  refine thenS_n ?_
  refine wpS_ret ?_
  refine thenS_r ?_
  refine fin1 (v := .int .i64 0) (.inr rfl) (.nil) Try.results175 rfl ?_
  exact fun w' hs => ⟨congrArg (fun z : Int64 => Ending.returned (.int .i64 z.toInt)) (by unfold doneC; rw [if_neg (by rw [hno]; decide)] : (0 : Int64) = _), hs⟩
 ·
  have p2 := of_decide_eq_false b2
  have hok : chkB k l1 l2 l3 = true := chk_yes (Decidable.not_not.1 p2)
  obtain ⟨hk1, hk4, hp1, hp2, hp3⟩ := chk_bd hok
  refine wpS_skip ?_
  refine thenS_n ?_
  refine wpS_seq ?_
  refine wpS_region ?_
  refine s_y (v := .agg #[.int .i64 0, .int .i64 0, .int .i64 0, .int .i64 0, .int .i64 0, .int .i64 0, .int .i64 0, .int .i64 0, .slice none 0 0, .int .i64 0]) (y_buildL (m := []) (vs := #[.int .i64 0, .int .i64 0, .int .i64 0, .int .i64 0, .int .i64 0, .int .i64 0, .int .i64 0, .int .i64 0, .slice none 0 0, .int .i64 0]) evn (fun w => by kernel_rfl)) rfl ?_
  refine s_e rfl ?_
  refine e_box (v := .agg #[.int .i64 0, .int .i64 0, .int .i64 0, .int .i64 0, .int .i64 0, .int .i64 0, .int .i64 0, .int .i64 0, .slice none 0 0, .int .i64 0]) (l := [.int .i64 0, .int .i64 0, .int .i64 0, .int .i64 0, .int .i64 0, .int .i64 0, .int .i64 0, .int .i64 0, .slice none 0 0, .int .i64 0]) rfl rfl ?_
  intro b_3
  refine s_y (v := .pointer (some ⟨b_3, 0, none⟩)) (y_assign rfl) rfl ?_
  refine wpL_nil ?_
  refine thenS_n ?_
  refine wpS_seq ?_
  refine wpS_anyL [] [] (by kernel_rfl) ?_
  refine anyS_take (i := 0) rfl (by kernel_rfl) (by kernel_rfl) (by kernel_rfl) (by kernel_rfl) (Yq.of (v := .pointer (some ⟨b_3, 0, none⟩)) (y_move rfl) rfl) (.nil) ?_
  refine anyS_take (i := 1) rfl (by kernel_rfl) (by kernel_rfl) (by kernel_rfl) (by kernel_rfl) (Yq.of (v := .pointer (some ⟨b_3, 0, none⟩)) (y_move rfl) rfl) (.nil) ?_
  refine anyS_take (i := 2) rfl (by kernel_rfl) (by kernel_rfl) (by kernel_rfl) (by kernel_rfl) (Yq.of (v := .int .i64 u.toInt) (y_move rfl) rfl) (.nil) ?_
  refine anyS_take (i := 3) rfl (by kernel_rfl) (by kernel_rfl) (by kernel_rfl) (by kernel_rfl) (Yq.of (v := .int .i64 v.toInt) (y_move rfl) rfl) (.nil) ?_
  refine anyS_take (i := 4) rfl (by kernel_rfl) (by kernel_rfl) (by kernel_rfl) (by kernel_rfl) (Yq.of (v := .pointer (some ⟨b_3, 0, none⟩)) (y_nilP rfl) rfl) (.nil) ?_
  refine anyS_take (i := 5) rfl (by kernel_rfl) (by kernel_rfl) (by kernel_rfl) (by kernel_rfl) (Yq.of (v := .pointer (some ⟨b_3, 0, none⟩)) (y_fieldAddr (o' := 0) rfl Try.underlying201 rfl Try.sizeOf199 (by decide) rfl) rfl) (.nil) ?_
  refine anyS_take (i := 6) rfl (by kernel_rfl) (by kernel_rfl) (by kernel_rfl) (by kernel_rfl) (Yq.of (v := .pointer (some ⟨b_3, 0, none⟩)) (y_idxA (o' := 0) rfl rfl Try.underlying199 Try.sizeOf2 (by decide) (by decide) (by decide)) rfl) (.nil) ?_
  refine anyS_take (i := 8) rfl (by kernel_rfl) (by kernel_rfl) (by kernel_rfl) (by kernel_rfl) (Yq.of (v := .pointer (some ⟨b_3, 0, none⟩)) (y_nilP rfl) rfl) (.nil) ?_
  refine anyS_take (i := 9) rfl (by kernel_rfl) (by kernel_rfl) (by kernel_rfl) (by kernel_rfl) (Yq.of (v := .pointer (some ⟨b_3, 0, none⟩)) (y_fieldAddr (o' := 0) rfl Try.underlying201 rfl Try.sizeOf199 (by decide) rfl) rfl) (.nil) ?_
  refine anyS_all (rs := [7]) (by kernel_rfl) (by simp) ?_
  intro i hi; obtain rfl := List.mem_singleton.1 hi; clear hi
  refine opS_0 rfl rfl ?_
  refine e_store (vs := [.int .i64 u.toInt]) (l' := [.int .i64 u.toInt, .int .i64 0, .int .i64 0, .int .i64 0, .int .i64 0, .int .i64 0, .int .i64 0, .int .i64 0, .slice none 0 0, .int .i64 0]) rfl rfl rfl rfl Try.sizeOf2 .h (Nat.le_of_ble_eq_true rfl) rfl ?_
  refine ⟨.inr (.nil), ?_⟩
  refine anyS_take (i := 10) rfl (by kernel_rfl) (by kernel_rfl) (by kernel_rfl) (by kernel_rfl) (Yq.of (v := .pointer (some ⟨b_3, 1, none⟩)) (y_idxA (o' := 1) rfl rfl Try.underlying199 Try.sizeOf2 (by decide) (by decide) (by decide)) rfl) (.nil) ?_
  refine anyS_all (rs := [11]) (by kernel_rfl) (by simp) ?_
  intro i hi; obtain rfl := List.mem_singleton.1 hi; clear hi
  refine opS_0 rfl rfl ?_
  refine e_store (vs := [.int .i64 v.toInt]) (l' := [.int .i64 u.toInt, .int .i64 v.toInt, .int .i64 0, .int .i64 0, .int .i64 0, .int .i64 0, .int .i64 0, .int .i64 0, .slice none 0 0, .int .i64 0]) rfl rfl rfl rfl Try.sizeOf2 .h (Nat.le_of_ble_eq_true rfl) rfl ?_
  refine ⟨.inr (.nil), ?_⟩
  refine anyS_done (by kernel_rfl) ?_
  refine thenS_n ?_
  refine wpS_seq ?_
  refine wpS_region ?_
  refine s_y (v := .pointer (some ⟨b_3, 0, none⟩)) (y_move rfl) rfl ?_
  refine s_y (v := .slice ga gn gc) (y_move rfl) rfl ?_
  refine s_e rfl ?_
  refine OpE.ent (fun w hs => SH.nil0 (sz := 4) (t := 23) w hs) ?_
  refine OpE.ent (L' := [osl none 0 0 4 23 (([] : List Rec).flatMap recV), cel b_3 201 (macV ([u, v, 0, 0, 0, 0, 0, 0] : List Int64) none 0 0 0), cel b_1 84 [.int .i64 k, .slice a1 n1 c1, .slice a2 n2 c2, .slice a3 n3 c3]]) (fun w hs => hs) ?_
  refine e_call (f := 173) (args := #[.pointer (some ⟨b_3, 0, none⟩), .slice ga gn gc]) (X := Unit) (A := [cel b_3 201 (macV ([u, v, 0, 0, 0, 0, 0, 0] : List Int64) none 0 0 0), osl none 0 0 4 23 (([] : List Rec).flatMap recV)]) (M := [cel b_1 84 [.int .i64 k, .slice a1 n1 c1, .slice a2 n2 c2, .slice a3 n3 c3]]) (V := fun _ => .tuple #[]) (A' := fun _ => [cel b_3 201 (macV ((runM 0 ⟨([u, v, 0, 0, 0, 0, 0, 0] : List Int64), ([] : List Rec)⟩ l).r) none 0 0 0), osl none 0 0 4 23 (((runM 0 ⟨([u, v, 0, 0, 0, 0, 0, 0] : List Int64), ([] : List Rec)⟩ l).s).flatMap recV)]) (C := fun _ => True) Try.call173 (ev2 rfl rfl) (.p (.t .h) (.p .h (.p .h .nil))) (fun w hs => (run_c b_3 ([u, v, 0, 0, 0, 0, 0, 0] : List Int64) none 0 0 ([] : List Rec) 0 ga gn gc l 0 w rfl (by first | rfl | omega | (simp; done)) rfl (hd hok) hn (by first | omega | (simp; omega)) ((oldR hr) w hs) (fun hl => (show _ ∧ _ from apOld hs (rdBlk hr hl) (by simp)).2) (SH.lend hs)).mono (fun e w2 hx => ⟨(), hx.1, hx.2, trivial⟩)) ?_
  rintro ⟨⟩ -
  have hrl5 : (runM 0 ⟨([u, v, 0, 0, 0, 0, 0, 0] : List Int64), ([] : List Rec)⟩ l).r.length = 8 := (runM_r _ _ _).trans rfl
  have hsl6 : (runM 0 ⟨([u, v, 0, 0, 0, 0, 0, 0] : List Int64), ([] : List Rec)⟩ l).s.length = 0 := (runM_s _ _ _).trans (by first | rfl | (show _ = _; omega))
  refine wpL_nil ?_
  refine thenS_n ?_
  refine wpS_seq ?_
  refine wpS_region ?_
  refine s_y (v := .pointer (some ⟨b_3, 0, none⟩)) (y_move rfl) rfl ?_
  refine s_y (v := .pointer (some ⟨b_3, 0, none⟩)) (y_nilP rfl) rfl ?_
  refine s_y (v := .pointer (some ⟨b_3, 0, none⟩)) (y_fieldAddr (o' := 0) rfl Try.underlying201 rfl Try.sizeOf199 (by decide) rfl) rfl ?_
  refine s_y (v := .pointer (some ⟨b_3, 0, none⟩)) (y_idxA (o' := 0) rfl rfl Try.underlying199 Try.sizeOf2 (by decide) (by decide) (by decide)) rfl ?_
  refine s_y (v := .int .i64 ((((runM 0 ⟨([u, v, 0, 0, 0, 0, 0, 0] : List Int64), ([] : List Rec)⟩ l).r).getD 0 0).toInt)) (y_load1 rfl Try.isAgg2 (own1 .h rfl)) rfl ?_
  refine s_y (v := .int .i64 ((((runM 0 ⟨([u, v, 0, 0, 0, 0, 0, 0] : List Int64), ([] : List Rec)⟩ l).r).getD 0 0).toInt)) (y_assign rfl) rfl ?_
  refine wpL_nil ?_
  refine thenS_n ?_
  refine wpS_ret ?_
  refine fin1 (v := .int .i64 ((((runM 0 ⟨([u, v, 0, 0, 0, 0, 0, 0] : List Int64), ([] : List Rec)⟩ l).r).getD 0 0).toInt)) (.inr rfl) (.nil) Try.results175 rfl ?_
  exact fun w' hs => ⟨congrArg (fun z : Int64 => Ending.returned (.int .i64 z.toInt)) (by unfold doneC; rw [if_pos hok]; rfl), hs⟩
theorem fold_c (k : Int) (a1 a2 a3 : Option Addr) (n1 c1 n2 c2 n3 c3 : Nat) (l1 l2 l3 : List Opc) (u v : Int64) (w : World) (hn1 : l1.length = n1) (hr1 : Rds w a1 (l1.flatMap opcV)) (hb1 : n1 ≤ 1000000) (hn2 : l2.length = n2) (hr2 : Rds w a2 (l2.flatMap opcV)) (hb2 : n2 ≤ 1000000) (hn3 : l3.length = n3) (hr3 : Rds w a3 (l3.flatMap opcV)) (hb3 : n3 ≤ 1000000) : Pure Try.prog 85 #[.agg #[.int .i64 k, .slice a1 n1 c1, .slice a2 n2 c2, .slice a3 n3 c3], .int .i64 u.toInt, .int .i64 v.toInt] w (.int .i64 ((doneC (chkB k l1 l2 l3) l2 u v).toInt)) := by
 refine calls_S (n := 13) (σ0 := (upd (upd (upd fr0 0 (.agg #[.int .i64 k, .slice a1 n1 c1, .slice a2 n2 c2, .slice a3 n3 c3])) 1 (.int .i64 u.toInt)) 2 (.int .i64 v.toInt))) (D := []) (A := []) Try.func85 rfl Try.ntmps85 rfl (a3_fr _ _ _) (SH.start w) ?_
 refine wpS_seq ?_
 refine wpS_region ?_
 refine s_e rfl ?_
 refine e_box (v := .agg #[.int .i64 k, .slice a1 n1 c1, .slice a2 n2 c2, .slice a3 n3 c3]) (l := [.int .i64 k, .slice a1 n1 c1, .slice a2 n2 c2, .slice a3 n3 c3]) rfl rfl ?_
 intro b_1
 refine s_y (v := .int .i64 0) (y_assign rfl) rfl ?_
 refine wpL_nil ?_
 refine thenS_n ?_
 refine wpS_seq ?_
 refine wpS_region ?_
 refine s_y (v := .agg #[.int .i64 k, .slice a1 n1 c1, .slice a2 n2 c2, .slice a3 n3 c3]) (y_loadN rfl Try.isAgg84 Try.sizeOf84 (ownN .h rfl)) rfl ?_
 refine s_y (v := .pointer (some ⟨b_1, 2, none⟩)) (y_fieldAddr (o' := 2) rfl Try.underlying84 rfl Try.sizeOf82 (by decide) rfl) rfl ?_
 refine s_y (v := .slice a2 n2 c2) (y_load1 rfl Try.isAgg82 (own1 .h rfl)) rfl ?_
 refine s_y (v := .int .i64 u.toInt) (y_move rfl) rfl ?_
 refine s_y (v := .int .i64 v.toInt) (y_move rfl) rfl ?_
 refine s_y (v := .int .i64 ((doneC (chkB k l1 l2 l3) l2 u v).toInt)) (y_call (args := #[.agg #[.int .i64 k, .slice a1 n1 c1, .slice a2 n2 c2, .slice a3 n3 c3], .slice a2 n2 c2, .int .i64 u.toInt, .int .i64 v.toInt]) Try.call175 (ev4 rfl rfl rfl rfl) (fun w hs => done_c k a1 a2 a3 n1 c1 n2 c2 n3 c3 l1 l2 l3 a2 n2 c2 l2 u v w hn1 ((oldR hr1) w hs) (by omega) hn2 ((oldR hr2) w hs) (by omega) hn3 ((oldR hr3) w hs) (by omega) hn2 ((oldR hr2) w hs) (by omega) (fun h => (chk_bd h).2.2.2.1))) rfl ?_
 refine s_y (v := .int .i64 ((doneC (chkB k l1 l2 l3) l2 u v).toInt)) (y_assign rfl) rfl ?_
 refine wpL_nil ?_
 refine thenS_n ?_
 refine wpS_ret ?_
 refine fin1 (M := []) (v := .int .i64 ((doneC (chkB k l1 l2 l3) l2 u v).toInt)) (.inr rfl) (.nil) Try.results85 rfl ?_
 exact fun w' hs => ⟨rfl, hs⟩
theorem finish_c (k : Int) (a1 a2 a3 : Option Addr) (n1 c1 n2 c2 n3 c3 : Nat) (l1 l2 l3 : List Opc) (u v : Int64) (w : World) (hn1 : l1.length = n1) (hr1 : Rds w a1 (l1.flatMap opcV)) (hb1 : n1 ≤ 1000000) (hn2 : l2.length = n2) (hr2 : Rds w a2 (l2.flatMap opcV)) (hb2 : n2 ≤ 1000000) (hn3 : l3.length = n3) (hr3 : Rds w a3 (l3.flatMap opcV)) (hb3 : n3 ≤ 1000000) : Pure Try.prog 89 #[.agg #[.int .i64 k, .slice a1 n1 c1, .slice a2 n2 c2, .slice a3 n3 c3], .int .i64 u.toInt, .int .i64 v.toInt] w (.int .i64 ((doneC (chkB k l1 l2 l3) l3 v u).toInt)) := by
 refine calls_S (n := 13) (σ0 := (upd (upd (upd fr0 0 (.agg #[.int .i64 k, .slice a1 n1 c1, .slice a2 n2 c2, .slice a3 n3 c3])) 1 (.int .i64 u.toInt)) 2 (.int .i64 v.toInt))) (D := []) (A := []) Try.func89 rfl Try.ntmps89 rfl (a3_fr _ _ _) (SH.start w) ?_
 refine wpS_seq ?_
 refine wpS_region ?_
 refine s_e rfl ?_
 refine e_box (v := .agg #[.int .i64 k, .slice a1 n1 c1, .slice a2 n2 c2, .slice a3 n3 c3]) (l := [.int .i64 k, .slice a1 n1 c1, .slice a2 n2 c2, .slice a3 n3 c3]) rfl rfl ?_
 intro b_1
 refine s_y (v := .int .i64 0) (y_assign rfl) rfl ?_
 refine wpL_nil ?_
 refine thenS_n ?_
 refine wpS_seq ?_
 refine wpS_region ?_
 refine s_y (v := .agg #[.int .i64 k, .slice a1 n1 c1, .slice a2 n2 c2, .slice a3 n3 c3]) (y_loadN rfl Try.isAgg84 Try.sizeOf84 (ownN .h rfl)) rfl ?_
 refine s_y (v := .pointer (some ⟨b_1, 3, none⟩)) (y_fieldAddr (o' := 3) rfl Try.underlying84 rfl Try.sizeOf82 (by decide) rfl) rfl ?_
 refine s_y (v := .slice a3 n3 c3) (y_load1 rfl Try.isAgg82 (own1 .h rfl)) rfl ?_
 refine s_y (v := .int .i64 v.toInt) (y_move rfl) rfl ?_
 refine s_y (v := .int .i64 u.toInt) (y_move rfl) rfl ?_
 refine s_y (v := .int .i64 ((doneC (chkB k l1 l2 l3) l3 v u).toInt)) (y_call (args := #[.agg #[.int .i64 k, .slice a1 n1 c1, .slice a2 n2 c2, .slice a3 n3 c3], .slice a3 n3 c3, .int .i64 v.toInt, .int .i64 u.toInt]) Try.call175 (ev4 rfl rfl rfl rfl) (fun w hs => done_c k a1 a2 a3 n1 c1 n2 c2 n3 c3 l1 l2 l3 a3 n3 c3 l3 v u w hn1 ((oldR hr1) w hs) (by omega) hn2 ((oldR hr2) w hs) (by omega) hn3 ((oldR hr3) w hs) (by omega) hn3 ((oldR hr3) w hs) (by omega) (fun h => (chk_bd h).2.2.2.2))) rfl ?_
 refine s_y (v := .int .i64 ((doneC (chkB k l1 l2 l3) l3 v u).toInt)) (y_assign rfl) rfl ?_
 refine wpL_nil ?_
 refine thenS_n ?_
 refine wpS_ret ?_
 refine fin1 (M := []) (v := .int .i64 ((doneC (chkB k l1 l2 l3) l3 v u).toInt)) (.inr rfl) (.nil) Try.results89 rfl ?_
 exact fun w' hs => ⟨rfl, hs⟩
theorem map_c (k : Int) (a1 a2 a3 : Option Addr) (n1 c1 n2 c2 n3 c3 : Nat) (l1 l2 l3 : List Opc) (nn u v : Int64) (w : World) (hn1 : l1.length = n1) (hr1 : Rds w a1 (l1.flatMap opcV)) (hb1 : n1 ≤ 1000000) (hn2 : l2.length = n2) (hr2 : Rds w a2 (l2.flatMap opcV)) (hb2 : n2 ≤ 1000000) (hn3 : l3.length = n3) (hr3 : Rds w a3 (l3.flatMap opcV)) (hb3 : n3 ≤ 1000000) : MakesS Try.prog 83 #[.agg #[.int .i64 k, .slice a1 n1 c1, .slice a2 n2 c2, .slice a3 n3 c3], .int .i64 nn.toInt, .agg #[.int .i64 u.toInt, .int .i64 v.toInt]] w [] recV 4 23 (mapC (chkB k l1 l2 l3) k l1 nn u v) := by
 refine calls_S (n := 57) (σ0 := (upd (upd (upd fr0 0 (.agg #[.int .i64 k, .slice a1 n1 c1, .slice a2 n2 c2, .slice a3 n3 c3])) 1 (.int .i64 nn.toInt)) 2 (.agg #[.int .i64 u.toInt, .int .i64 v.toInt]))) (D := []) (A := []) Try.func83 rfl Try.ntmps83 rfl (a3_fr _ _ _) (SH.start w) ?_
 refine wpS_seq ?_
 refine wpS_region ?_
 refine s_e rfl ?_
 refine e_box (v := .agg #[.int .i64 k, .slice a1 n1 c1, .slice a2 n2 c2, .slice a3 n3 c3]) (l := [.int .i64 k, .slice a1 n1 c1, .slice a2 n2 c2, .slice a3 n3 c3]) rfl rfl ?_
 intro b_1
 refine s_e rfl ?_
 refine e_box (v := .agg #[.int .i64 u.toInt, .int .i64 v.toInt]) (l := [.int .i64 u.toInt, .int .i64 v.toInt]) rfl rfl ?_
 intro b_2
 refine s_y (v := .slice none 0 0) (y_assign rfl) rfl ?_
 refine wpL_nil ?_
 refine thenS_n ?_
 refine wpS_seq ?_
 refine wpS_seq ?_
 refine wpS_region ?_
 refine s_y (v := .agg #[.int .i64 k, .slice a1 n1 c1, .slice a2 n2 c2, .slice a3 n3 c3]) (y_loadN rfl Try.isAgg84 Try.sizeOf84 (ownN (.t .h) rfl)) rfl ?_
 refine s_y (v := .int .i64 (chk11 k l1 l2 l3)) (y_call (args := #[.agg #[.int .i64 k, .slice a1 n1 c1, .slice a2 n2 c2, .slice a3 n3 c3]]) Try.call84 (ev1 rfl) (fun w hs => check_c k a1 a2 a3 n1 c1 n2 c2 n3 c3 l1 l2 l3 w hn1 ((oldR hr1) w hs) (by omega) hn2 ((oldR hr2) w hs) (by omega) hn3 ((oldR hr3) w hs) (by omega))) rfl ?_
 refine s_y (v := .bool (decide ((chk11 k l1 l2 l3 : Int) ≠ 0))) (y_neq (a := chk11 k l1 l2 l3) (b := 0) rfl rfl rfl) rfl ?_
 refine wpL_nil ?_
 refine thenS_n ?_
 refine wpS_cond (t := decide ((chk11 k l1 l2 l3 : Int) ≠ 0)) rfl (fun b3 => ?_) (fun b3 => ?_)
 ·
  have p3 := of_decide_eq_true b3
  have hno : chkB k l1 l2 l3 = false := chk_no p3
  refine wpS_seq ?_
  refine wpS_region ?_
  refine s_y (v := .slice none 0 0) (y_assign rfl) rfl ?_
  refine wpL_nil ?_
  refine thenS_n ?_
  refine wpS_ret ?_
  refine thenS_r ?_
  refine finNil (.inr rfl) .nil Try.results83 rfl (sz := 4) (ty := 23) ?_
  exact fun w' hs => ⟨(none, 0), by rw [show (mapC (chkB k l1 l2 l3) k l1 nn u v) = [] from (by unfold mapC; rw [if_neg (by rw [hno]; decide)])]; rfl, by rw [show (mapC (chkB k l1 l2 l3) k l1 nn u v) = [] from (by unfold mapC; rw [if_neg (by rw [hno]; decide)])]; exact hs, trivial⟩
 ·
  have p3 := of_decide_eq_false b3
  have hok : chkB k l1 l2 l3 = true := chk_yes (Decidable.not_not.1 p3)
  obtain ⟨hk1, hk4, hp1, hp2, hp3⟩ := chk_bd hok
  refine wpS_skip ?_
  refine thenS_n ?_
  refine wpS_seq ?_
  refine wpS_region ?_
  refine s_y (v := .int .i64 nn.toInt) (y_move rfl) rfl ?_
  refine s_y (v := .pointer (some ⟨b_1, 0, none⟩)) (y_fieldAddr (o' := 0) rfl Try.underlying84 rfl Try.sizeOf3 (by decide) rfl) rfl ?_
  refine s_y (v := .int .i64 k) (y_load1 rfl Try.isAgg3 (own1 (.t .h) rfl)) rfl ?_
  refine s_y (v := .int .i64 ((nn * Int64.ofInt k).toInt)) (y_mul (a := nn.toInt) (b := k) rfl rfl (i_mulZ (by omega) (by omega))) rfl ?_
  refine s_y (v := .agg #[.int .i64 0, .int .i64 0, .int .i64 0, .int .i64 0, .int .i64 0, .int .i64 0, .int .i64 0, .int .i64 0, .slice none 0 0, .int .i64 ((nn * Int64.ofInt k).toInt)]) (y_buildL (m := [(2, .int .i64 ((nn * Int64.ofInt k).toInt))]) (vs := #[.int .i64 0, .int .i64 0, .int .i64 0, .int .i64 0, .int .i64 0, .int .i64 0, .int .i64 0, .int .i64 0, .slice none 0 0, .int .i64 ((nn * Int64.ofInt k).toInt)]) (evc rfl evn) (fun w => by kernel_rfl)) rfl ?_
  refine s_e rfl ?_
  refine e_box (v := .agg #[.int .i64 0, .int .i64 0, .int .i64 0, .int .i64 0, .int .i64 0, .int .i64 0, .int .i64 0, .int .i64 0, .slice none 0 0, .int .i64 ((nn * Int64.ofInt k).toInt)]) (l := [.int .i64 0, .int .i64 0, .int .i64 0, .int .i64 0, .int .i64 0, .int .i64 0, .int .i64 0, .int .i64 0, .slice none 0 0, .int .i64 ((nn * Int64.ofInt k).toInt)]) rfl rfl ?_
  intro b_4
  refine s_y (v := .pointer (some ⟨b_4, 0, none⟩)) (y_assign rfl) rfl ?_
  refine wpL_nil ?_
  refine thenS_n ?_
  refine wpS_seq ?_
  refine wpS_anyL [cel b_2 89 [.int .i64 u.toInt, .int .i64 v.toInt]] [] (by kernel_rfl) ?_
  refine anyS_take (i := 0) rfl (by kernel_rfl) (by kernel_rfl) (by kernel_rfl) (by kernel_rfl) (Yq.of (v := .pointer (some ⟨b_4, 0, none⟩)) (y_move rfl) rfl) (.p (.t .h) .nil) ?_
  refine anyS_take (i := 1) rfl (by kernel_rfl) (by kernel_rfl) (by kernel_rfl) (by kernel_rfl) (Yq.of (v := .pointer (some ⟨b_4, 0, none⟩)) (y_move rfl) rfl) (.p (.t .h) .nil) ?_
  refine anyS_take (i := 2) rfl (by kernel_rfl) (by kernel_rfl) (by kernel_rfl) (by kernel_rfl) (Yq.of (v := .pointer (some ⟨b_4, 0, none⟩)) (y_move rfl) rfl) (.p (.t .h) .nil) ?_
  refine anyS_take (i := 3) rfl (by kernel_rfl) (by kernel_rfl) (by kernel_rfl) (by kernel_rfl) (Yq.of (v := .pointer (some ⟨b_2, 0, none⟩)) (y_fieldAddr (o' := 0) rfl Try.underlying89 rfl Try.sizeOf2 (by decide) rfl) rfl) (.p (.t .h) .nil) ?_
  refine anyS_take (i := 4) rfl (by kernel_rfl) (by kernel_rfl) (by kernel_rfl) (by kernel_rfl) (Yq.of (v := .int .i64 u.toInt) (y_load1 rfl Try.isAgg2 (own1 .h rfl)) rfl) (.p (.t .h) .nil) ?_
  refine anyS_take (i := 5) rfl (by kernel_rfl) (by kernel_rfl) (by kernel_rfl) (by kernel_rfl) (Yq.of (v := .pointer (some ⟨b_2, 1, none⟩)) (y_fieldAddr (o' := 1) rfl Try.underlying89 rfl Try.sizeOf2 (by decide) rfl) rfl) (.p (.t .h) .nil) ?_
  refine anyS_take (i := 6) rfl (by kernel_rfl) (by kernel_rfl) (by kernel_rfl) (by kernel_rfl) (Yq.of (v := .int .i64 v.toInt) (y_load1 rfl Try.isAgg2 (own1 .h rfl)) rfl) (.p (.t .h) .nil) ?_
  refine anyS_take (i := 7) rfl (by kernel_rfl) (by kernel_rfl) (by kernel_rfl) (by kernel_rfl) (Yq.of (v := .int .i64 nn.toInt) (y_move rfl) rfl) (.p (.t .h) .nil) ?_
  refine anyS_take (i := 8) rfl (by kernel_rfl) (by kernel_rfl) (by kernel_rfl) (by kernel_rfl) (Yq.of (v := .pointer (some ⟨b_4, 0, none⟩)) (y_nilP rfl) rfl) (.p (.t .h) .nil) ?_
  refine anyS_take (i := 9) rfl (by kernel_rfl) (by kernel_rfl) (by kernel_rfl) (by kernel_rfl) (Yq.of (v := .pointer (some ⟨b_4, 0, none⟩)) (y_fieldAddr (o' := 0) rfl Try.underlying201 rfl Try.sizeOf199 (by decide) rfl) rfl) (.p (.t .h) .nil) ?_
  refine anyS_take (i := 10) rfl (by kernel_rfl) (by kernel_rfl) (by kernel_rfl) (by kernel_rfl) (Yq.of (v := .pointer (some ⟨b_4, 0, none⟩)) (y_idxA (o' := 0) rfl rfl Try.underlying199 Try.sizeOf2 (by decide) (by decide) (by decide)) rfl) (.p (.t .h) .nil) ?_
  refine anyS_take (i := 12) rfl (by kernel_rfl) (by kernel_rfl) (by kernel_rfl) (by kernel_rfl) (Yq.of (v := .pointer (some ⟨b_4, 0, none⟩)) (y_nilP rfl) rfl) (.p (.t .h) .nil) ?_
  refine anyS_take (i := 13) rfl (by kernel_rfl) (by kernel_rfl) (by kernel_rfl) (by kernel_rfl) (Yq.of (v := .pointer (some ⟨b_4, 0, none⟩)) (y_fieldAddr (o' := 0) rfl Try.underlying201 rfl Try.sizeOf199 (by decide) rfl) rfl) (.p (.t .h) .nil) ?_
  refine anyS_take (i := 16) rfl (by kernel_rfl) (by kernel_rfl) (by kernel_rfl) (by kernel_rfl) (Yq.of (v := .pointer (some ⟨b_4, 0, none⟩)) (y_nilP rfl) rfl) (.p (.t .h) .nil) ?_
  refine anyS_take (i := 17) rfl (by kernel_rfl) (by kernel_rfl) (by kernel_rfl) (by kernel_rfl) (Yq.of (v := .pointer (some ⟨b_4, 0, none⟩)) (y_fieldAddr (o' := 0) rfl Try.underlying201 rfl Try.sizeOf199 (by decide) rfl) rfl) (.p (.t .h) .nil) ?_
  refine anyS_all (rs := [11]) (by kernel_rfl) (by simp) ?_
  intro i hi; obtain rfl := List.mem_singleton.1 hi; clear hi
  refine opS_0 rfl rfl ?_
  refine e_store (vs := [.int .i64 u.toInt]) (l' := [.int .i64 u.toInt, .int .i64 0, .int .i64 0, .int .i64 0, .int .i64 0, .int .i64 0, .int .i64 0, .int .i64 0, .slice none 0 0, .int .i64 ((nn * Int64.ofInt k).toInt)]) rfl rfl rfl rfl Try.sizeOf2 .h (Nat.le_of_ble_eq_true rfl) rfl ?_
  refine ⟨.inr (.p (.t .h) .nil), ?_⟩
  refine anyS_take (i := 14) rfl (by kernel_rfl) (by kernel_rfl) (by kernel_rfl) (by kernel_rfl) (Yq.of (v := .pointer (some ⟨b_4, 1, none⟩)) (y_idxA (o' := 1) rfl rfl Try.underlying199 Try.sizeOf2 (by decide) (by decide) (by decide)) rfl) (.p (.t .h) .nil) ?_
  refine anyS_all (rs := [15]) (by kernel_rfl) (by simp) ?_
  intro i hi; obtain rfl := List.mem_singleton.1 hi; clear hi
  refine opS_0 rfl rfl ?_
  refine e_store (vs := [.int .i64 v.toInt]) (l' := [.int .i64 u.toInt, .int .i64 v.toInt, .int .i64 0, .int .i64 0, .int .i64 0, .int .i64 0, .int .i64 0, .int .i64 0, .slice none 0 0, .int .i64 ((nn * Int64.ofInt k).toInt)]) rfl rfl rfl rfl Try.sizeOf2 .h (Nat.le_of_ble_eq_true rfl) rfl ?_
  refine ⟨.inr (.p (.t .h) .nil), ?_⟩
  refine anyS_take (i := 18) rfl (by kernel_rfl) (by kernel_rfl) (by kernel_rfl) (by kernel_rfl) (Yq.of (v := .pointer (some ⟨b_4, 2, none⟩)) (y_idxA (o' := 2) rfl rfl Try.underlying199 Try.sizeOf2 (by decide) (by decide) (by decide)) rfl) (.p (.t .h) .nil) ?_
  refine anyS_all (rs := [19]) (by kernel_rfl) (by simp) ?_
  intro i hi; obtain rfl := List.mem_singleton.1 hi; clear hi
  refine opS_0 rfl rfl ?_
  refine e_store (vs := [.int .i64 nn.toInt]) (l' := [.int .i64 u.toInt, .int .i64 v.toInt, .int .i64 nn.toInt, .int .i64 0, .int .i64 0, .int .i64 0, .int .i64 0, .int .i64 0, .slice none 0 0, .int .i64 ((nn * Int64.ofInt k).toInt)]) rfl rfl rfl rfl Try.sizeOf2 .h (Nat.le_of_ble_eq_true rfl) rfl ?_
  refine ⟨.inr (.p (.t .h) .nil), ?_⟩
  refine anyS_done (by kernel_rfl) ?_
  refine thenS_n ?_
  refine wpS_seq ?_
  refine wpS_seq ?_
  refine wpS_region ?_
  refine s_y (v := .pointer (some ⟨b_1, 0, none⟩)) (y_fieldAddr (o' := 0) rfl Try.underlying84 rfl Try.sizeOf3 (by decide) rfl) rfl ?_
  refine s_y (v := .int .i64 k) (y_load1 rfl Try.isAgg3 (own1 (.t (.t .h)) rfl)) rfl ?_
  refine s_y (v := .int .i64 0) (y_move rfl) rfl ?_
  refine wpL_nil ?_
  refine thenS_n ?_
  refine wpS_block ?_
  refine wpS_nil0 4 23 ?_
  refine wpS_loop (fun mez ds σ L => ∃ j : Nat, ∃ b1 : Option Addr, ∃ d1 : Nat, mez = k.toNat - j ∧ (j ≤ k.toNat) ∧ ds = [] ∧ σ 3 = .pointer (some ⟨b_1, 0, none⟩) ∧ σ 7 = .pointer (some ⟨b_4, 0, none⟩) ∧ σ 35 = .int .i64 k ∧ σ 36 = .int .i64 ((j : Nat) : Int) ∧ Ent L [osl b1 d1 ((List.replicate j deadR).length) 4 23 ((List.replicate j deadR).flatMap recV), cel b_4 201 [.int .i64 u.toInt, .int .i64 v.toInt, .int .i64 nn.toInt, .int .i64 0, .int .i64 0, .int .i64 0, .int .i64 0, .int .i64 0, .slice b1 ((List.replicate j deadR).length) d1, .int .i64 ((nn * Int64.ofInt k).toInt)], cel b_2 89 [.int .i64 u.toInt, .int .i64 v.toInt], cel b_1 84 [.int .i64 k, .slice a1 n1 c1, .slice a2 n2 c2, .slice a3 n3 c3]]) (m0 := k.toNat - 0) ⟨0, none, 0, rfl, by omega, rfl, rfl, rfl, rfl, rfl, .p .h (.p .h (.p .h (.p .h .nil)))⟩ ?_
  rintro mez ds σ L ⟨j, b1, d1, hm_5, hf0_5, rfl, h3_5, h7_5, h35_5, h36_5, hE_5⟩
  refine wpS_ent hE_5 ?_; clear hE_5
  refine wpS_seq ?_
  refine wpS_region ?_
  refine s_y (v := .bool (decide ((((j : Nat) : Int) : Int) < k))) (y_lss (a := ((j : Nat) : Int)) (b := k) h36_5 h35_5 rfl) rfl ?_
  refine wpL_nil ?_
  refine thenS_n ?_
  refine wpS_seq ?_
  refine wpS_cond (t := decide ((((j : Nat) : Int) : Int) < k)) rfl (fun b6 => ?_) (fun b6 => ?_)
  ·
   have p6 := of_decide_eq_true b6
   refine wpS_skip ?_
   refine thenS_n ?_
   refine wpS_seq ?_
   refine wpS_block ?_
   refine wpS_region ?_
   refine s_y (v := .pointer (some ⟨b_4, 0, none⟩)) (y_move h7_5) rfl ?_
   refine s_y (v := .pointer (some ⟨b_4, 0, none⟩)) (y_move h7_5) rfl ?_
   refine s_y (v := .pointer (some ⟨b_4, 0, none⟩)) (y_nilP rfl) rfl ?_
   refine s_y (v := .pointer (some ⟨b_4, 8, none⟩)) (y_fieldAddr (o' := 8) rfl Try.underlying201 rfl Try.sizeOf69 (by decide) rfl) rfl ?_
   refine s_y (v := .slice b1 ((List.replicate j deadR).length) d1) (y_load1 rfl Try.isAgg69 (own1 (.t .h) rfl)) rfl ?_
   refine s_y (v := .agg #[.bool true, .int .i64 0, .int .i64 0, .int .i64 0]) (y_buildL (m := [(0, .bool true)]) (vs := #[.bool true, .int .i64 0, .int .i64 0, .int .i64 0]) (evc rfl evn) (fun w => by kernel_rfl)) rfl ?_
   refine s_e rfl ?_
   refine e_bsliceL (e := 23) (m := [(0, .agg #[.bool true, .int .i64 0, .int .i64 0, .int .i64 0])]) (l := [.bool true, .int .i64 0, .int .i64 0, .int .i64 0]) (evc rfl evn) (fun w => by kernel_rfl) ?_
   intro b_7
   refine s_e rfl ?_
   refine e_appendL (enc := recV) (xs := ((List.replicate j deadR) : List Rec)) (ns := ([(Rec.mk true 0 0 0)] : List Rec)) (zs := (List.replicate (j + 1) deadR)) (bytes := 32) recV_len recV_one Try.underlying69 (i := Try.t23) rfl rfl rfl rfl rfl (by decide) rfl rfl (by first | rfl | omega) (by first | rfl | omega) (.t .h) (fun w hs => celR .h w hs) (rep_next j) (by rw [List.length_replicate]; omega) (by rw [List.length_replicate]; omega) ?_
   intro a_8 c_9
   refine s_y (v := .pointer (some ⟨b_4, 0, none⟩)) (y_nilP rfl) rfl ?_
   refine s_y (v := .pointer (some ⟨b_4, 8, none⟩)) (y_fieldAddr (o' := 8) rfl Try.underlying201 rfl Try.sizeOf69 (by decide) rfl) rfl ?_
   refine s_e0 ?_
   refine e_store (vs := [.slice a_8 ((List.replicate (j + 1) deadR).length) c_9]) (l' := [.int .i64 u.toInt, .int .i64 v.toInt, .int .i64 nn.toInt, .int .i64 0, .int .i64 0, .int .i64 0, .int .i64 0, .int .i64 0, .slice a_8 ((List.replicate (j + 1) deadR).length) c_9, .int .i64 ((nn * Int64.ofInt k).toInt)]) rfl rfl rfl rfl Try.sizeOf69 (.t (.t .h)) (Nat.le_of_ble_eq_true rfl) rfl ?_
   refine wpL_nil ?_
   refine blockS_n ?_
   refine thenS_n ?_
   refine wpS_region ?_
   refine s_y (v := .int .i64 (((j + 1) : Nat) : Int)) (y_add (a := ((j : Nat) : Int)) (b := 1) h36_5 rfl (wI (by omega) (by omega) (by omega))) rfl ?_
   refine s_y (v := .int .i64 (((j + 1) : Nat) : Int)) (y_move rfl) rfl ?_
   refine wpL_nil ?_
   refine thenS_n ?_
   exact ⟨_, by omega, ⟨(j + 1), a_8, c_9, rfl, by omega, rfl, h3_5, h7_5, h35_5, rfl, .p (.t .h) (.p .h (.p (.t .h) (.p (.t .h) .nil)))⟩⟩
  ·
   have p6 := of_decide_eq_false b6
   refine wpS_exit ?_
   refine thenS_x ?_
   refine thenS_x ?_
   refine blockS_h ?_
   refine thenS_n ?_
   refine wpS_seq ?_
   refine wpS_region ?_
   refine s_y (v := .pointer (some ⟨b_4, 0, none⟩)) (y_move h7_5) rfl ?_
   refine s_y (v := .pointer (some ⟨b_1, 1, none⟩)) (y_fieldAddr (o' := 1) h3_5 Try.underlying84 rfl Try.sizeOf82 (by decide) rfl) rfl ?_
   refine s_y (v := .slice a1 n1 c1) (y_load1 rfl Try.isAgg82 (own1 (.t (.t (.t .h))) rfl)) rfl ?_
   refine s_e rfl ?_
   refine OpE.ent (L' := [osl b1 d1 ((List.replicate j deadR).length) 4 23 ((List.replicate j deadR).flatMap recV), cel b_4 201 (macV ([u, v, nn, 0, 0, 0, 0, 0] : List Int64) b1 ((List.replicate j deadR).length) d1 (nn * Int64.ofInt k)), cel b_2 89 [.int .i64 u.toInt, .int .i64 v.toInt], cel b_1 84 [.int .i64 k, .slice a1 n1 c1, .slice a2 n2 c2, .slice a3 n3 c3]]) (fun w hs => hs) ?_
   refine e_call (f := 173) (args := #[.pointer (some ⟨b_4, 0, none⟩), .slice a1 n1 c1]) (X := Unit) (A := [cel b_4 201 (macV ([u, v, nn, 0, 0, 0, 0, 0] : List Int64) b1 ((List.replicate j deadR).length) d1 (nn * Int64.ofInt k)), osl b1 d1 ((List.replicate j deadR).length) 4 23 ((List.replicate j deadR).flatMap recV)]) (M := [cel b_2 89 [.int .i64 u.toInt, .int .i64 v.toInt], cel b_1 84 [.int .i64 k, .slice a1 n1 c1, .slice a2 n2 c2, .slice a3 n3 c3]]) (V := fun _ => .tuple #[]) (A' := fun _ => [cel b_4 201 (macV ((runM (nn * Int64.ofInt k) ⟨([u, v, nn, 0, 0, 0, 0, 0] : List Int64), (List.replicate j deadR)⟩ l1).r) b1 ((List.replicate j deadR).length) d1 (nn * Int64.ofInt k)), osl b1 d1 ((List.replicate j deadR).length) 4 23 (((runM (nn * Int64.ofInt k) ⟨([u, v, nn, 0, 0, 0, 0, 0] : List Int64), (List.replicate j deadR)⟩ l1).s).flatMap recV)]) (C := fun _ => True) Try.call173 (ev2 rfl rfl) (.p (.t .h) (.p .h (.p .h (.p .h .nil)))) (fun w hs => (run_c b_4 ([u, v, nn, 0, 0, 0, 0, 0] : List Int64) b1 ((List.replicate j deadR).length) d1 (List.replicate j deadR) (nn * Int64.ofInt k) a1 n1 c1 l1 k w rfl (by first | rfl | omega | (simp; done)) (by rw [List.length_replicate]; omega) hp1 hn1 (by first | omega | (simp; omega)) ((oldR hr1) w hs) (fun hl => (show _ ∧ _ from apOld hs (rdBlk hr1 hl) (by simp)).2) (SH.lend hs)).mono (fun e w2 hx => ⟨(), hx.1, hx.2, trivial⟩)) ?_
   rintro ⟨⟩ -
   have hrl10 : (runM (nn * Int64.ofInt k) ⟨([u, v, nn, 0, 0, 0, 0, 0] : List Int64), (List.replicate j deadR)⟩ l1).r.length = 8 := (runM_r _ _ _).trans rfl
   have hsl11 : (runM (nn * Int64.ofInt k) ⟨([u, v, nn, 0, 0, 0, 0, 0] : List Int64), (List.replicate j deadR)⟩ l1).s.length = (List.replicate j deadR).length := (runM_s _ _ _).trans (by first | rfl | (show _ = _; omega))
   refine wpL_nil ?_
   refine thenS_n ?_
   refine wpS_seq ?_
   refine wpS_region ?_
   refine s_y (v := .pointer (some ⟨b_4, 0, none⟩)) (y_move h7_5) rfl ?_
   refine s_y (v := .pointer (some ⟨b_4, 0, none⟩)) (y_nilP rfl) rfl ?_
   refine s_y (v := .pointer (some ⟨b_4, 8, none⟩)) (y_fieldAddr (o' := 8) rfl Try.underlying201 rfl Try.sizeOf69 (by decide) rfl) rfl ?_
   refine s_y (v := .slice b1 ((List.replicate j deadR).length) d1) (y_load1 rfl Try.isAgg69 (own1 .h rfl)) rfl ?_
   refine s_y (v := .slice b1 ((List.replicate j deadR).length) d1) (y_assign rfl) rfl ?_
   refine wpL_nil ?_
   refine thenS_n ?_
   refine wpS_ret ?_
   refine fin1 (M := [osl b1 d1 ((List.replicate j deadR).length) 4 23 (((runM (nn * Int64.ofInt k) ⟨([u, v, nn, 0, 0, 0, 0, 0] : List Int64), (List.replicate j deadR)⟩ l1).s).flatMap recV)]) (v := .slice b1 ((List.replicate j deadR).length) d1) (.inr rfl) (.p (.t .h) .nil) Try.results83 rfl ?_
   exact fun w' hs => ⟨(b1, d1), by rw [show (mapC (chkB k l1 l2 l3) k l1 nn u v) = (runM (nn * Int64.ofInt k) ⟨([u, v, nn, 0, 0, 0, 0, 0] : List Int64), (List.replicate j deadR)⟩ l1).s from (by unfold mapC mapP; rw [if_pos hok, show j = k.toNat by omega]; rfl)]; simp only [slV, show ((runM (nn * Int64.ofInt k) ⟨([u, v, nn, 0, 0, 0, 0, 0] : List Int64), (List.replicate j deadR)⟩ l1).s).length = (List.replicate j deadR).length from by omega], by rw [show (mapC (chkB k l1 l2 l3) k l1 nn u v) = (runM (nn * Int64.ofInt k) ⟨([u, v, nn, 0, 0, 0, 0, 0] : List Int64), (List.replicate j deadR)⟩ l1).s from (by unfold mapC mapP; rw [if_pos hok, show j = k.toNat by omega]; rfl)]; simp only [slR, show ((runM (nn * Int64.ofInt k) ⟨([u, v, nn, 0, 0, 0, 0, 0] : List Int64), (List.replicate j deadR)⟩ l1).s).length = (List.replicate j deadR).length from by omega]; exact hs, trivial⟩
def cstp (b : Bool) (f g : List Opc) (c r : Rec) : Rec × Rec :=
  if r.dead = false ∧ c.dead = false ∧ r.key = c.key then (deadR, ⟨c.dead, c.key, doneC b f c.value r.value, c.seq⟩)
  else (if c.dead = false then ⟨false, c.key, doneC b g c.value c.key, 0⟩ else deadR, if r.dead = false then ⟨false, r.key, r.value, 0⟩ else deadR)
def run15 (b : Bool) (f g : List Opc) (s : List Rec × Rec) (l : List Rec) : List Rec × Rec := l.foldl (fun s r => (s.1 ++ [(cstp b f g s.2 r).1], (cstp b f g s.2 r).2)) s
def normC (c : Rec) : Rec := if c.dead = false then ⟨false, c.key, c.value, 0⟩ else deadR
def stepO (b : Bool) (f g : List Opc) (c : Rec) (l : List Rec) : List Rec := if b = true then (run15 b f g ([], c) l).1 else []
def stepC (b : Bool) (f g : List Opc) (c : Rec) (l : List Rec) : Rec := if b = true then normC (run15 b f g ([], c) l).2 else deadR
theorem cstp_1 {b : Bool} {f g : List Opc} {c r : Rec} (h1 : r.dead = false) (h2 : c.dead = false) (h3 : r.key = c.key) : cstp b f g c r = (deadR, ⟨c.dead, c.key, doneC b f c.value r.value, c.seq⟩) := by unfold cstp; rw [if_pos ⟨h1, h2, h3⟩]
theorem cstp_a {b : Bool} {f g : List Opc} {c r : Rec} (h1 : r.dead = true) (h2 : c.dead = true) : cstp b f g c r = (deadR, deadR) := by unfold cstp; simp [h1, h2]
theorem cstp_b {b : Bool} {f g : List Opc} {c r : Rec} (h1 : r.dead = true) (h2 : c.dead = false) : cstp b f g c r = (⟨false, c.key, doneC b g c.value c.key, 0⟩, deadR) := by unfold cstp; simp [h1, h2]
theorem cstp_c {b : Bool} {f g : List Opc} {c r : Rec} (h1 : r.dead = false) (h2 : c.dead = true) : cstp b f g c r = (deadR, ⟨false, r.key, r.value, 0⟩) := by unfold cstp; simp [h1, h2]
theorem cstp_d {b : Bool} {f g : List Opc} {c r : Rec} (h1 : r.dead = false) (h2 : c.dead = false) (h3 : ¬ r.key = c.key) : cstp b f g c r = (⟨false, c.key, doneC b g c.value c.key, 0⟩, ⟨false, r.key, r.value, 0⟩) := by unfold cstp; simp [h1, h2, h3]
theorem run15_app (b : Bool) (f g : List Opc) (s : List Rec × Rec) (l z : List Rec) : run15 b f g s (l ++ z) = run15 b f g (run15 b f g s l) z := List.foldl_append
theorem run15_len (b : Bool) (f g : List Opc) (l : List Rec) : ∀ s : List Rec × Rec, (run15 b f g s l).1.length = s.1.length + l.length := by
  induction l with
  | nil => intro s; rfl
  | cons r l ih =>
    intro s
    show (run15 b f g (s.1 ++ [(cstp b f g s.2 r).1], (cstp b f g s.2 r).2) l).1.length = _
    rw [ih]
    simp
    omega
theorem run15_step {b : Bool} {f g : List Opc} {s : List Rec × Rec} {l : List Rec} {i : Nat} {os : List Rec} {cq o c2 : Rec} (h : (os, cq) = run15 b f g s (l.take i)) (hi : i < l.length) (hs : cstp b f g cq (l.getD i default) = (o, c2)) : (os ++ [o], c2) = run15 b f g s (l.take (i + 1)) := by
  rw [List.take_succ_eq_append_getElem hi, run15_app, ← h]
  rw [List.getD_eq_getElem?_getD, List.getElem?_eq_getElem hi, Option.getD_some] at hs
  show _ = (os ++ [(cstp b f g cq l[i]).1], (cstp b f g cq l[i]).2)
  rw [hs]
theorem stepO_len {b : Bool} {f g : List Opc} {c : Rec} {l : List Rec} (h : b = true) : (stepO b f g c l).length = l.length := by
  unfold stepO
  rw [if_pos h, run15_len]
  simp
theorem stepO_le {b : Bool} {f g : List Opc} {c : Rec} {l : List Rec} : (stepO b f g c l).length ≤ l.length := by
  unfold stepO
  split
  · rw [run15_len]; simp
  · simp
theorem norm_norm (c : Rec) : normC (normC c) = normC c := by
  unfold normC
  split
  · rfl
  · rw [if_neg (by simp [deadR])]
theorem norm_dead {c c' : Rec} (h : normC c = normC c') : c.dead = c'.dead := by
  unfold normC at h
  cases hc : c.dead <;> cases hc' : c'.dead <;> simp [hc, hc', deadR] at h <;> rfl
theorem norm_kv {c c' : Rec} (h : normC c = normC c') (hd : c.dead = false) : c.key = c'.key ∧ c.value = c'.value := by
  have hd' : c'.dead = false := by rw [← norm_dead h]; exact hd
  unfold normC at h
  rw [if_pos hd, if_pos hd'] at h
  injection h with h1 h2 h3 h4
  exact ⟨h2, h3⟩
theorem cstp_eqv {b : Bool} {f g : List Opc} {c c' r : Rec} (h : normC c = normC c') : (cstp b f g c r).1 = (cstp b f g c' r).1 ∧ normC (cstp b f g c r).2 = normC (cstp b f g c' r).2 := by
  have hd := norm_dead h
  cases hc : c.dead
  · have hc' : c'.dead = false := by rw [← hd]; exact hc
    obtain ⟨hk, hv⟩ := norm_kv h hc
    cases hr : r.dead
    · by_cases e : r.key = c.key
      · rw [cstp_1 hr hc e, cstp_1 hr hc' (by rw [← hk]; exact e), hk, hv, hc, hc']
        exact ⟨rfl, rfl⟩
      · rw [cstp_d hr hc e, cstp_d hr hc' (by rw [← hk]; exact e), hk, hv]
        exact ⟨rfl, rfl⟩
    · rw [cstp_b hr hc, cstp_b hr hc', hk, hv]
      exact ⟨rfl, rfl⟩
  · have hc' : c'.dead = true := by rw [← hd]; exact hc
    cases hr : r.dead
    · rw [cstp_c hr hc, cstp_c hr hc']
      exact ⟨rfl, rfl⟩
    · rw [cstp_a hr hc, cstp_a hr hc']
      exact ⟨rfl, rfl⟩
theorem run_eqv {b : Bool} {f g : List Opc} (l : List Rec) : ∀ (o : List Rec) (c c' : Rec), normC c = normC c' → (run15 b f g (o, c) l).1 = (run15 b f g (o, c') l).1 ∧ normC (run15 b f g (o, c) l).2 = normC (run15 b f g (o, c') l).2 := by
  induction l with
  | nil => intro o c c' h; exact ⟨rfl, h⟩
  | cons r l ih =>
    intro o c c' h
    have h2 := cstp_eqv (b := b) (f := f) (g := g) (r := r) h
    show (run15 b f g (o ++ [(cstp b f g c r).1], (cstp b f g c r).2) l).1 = (run15 b f g (o ++ [(cstp b f g c' r).1], (cstp b f g c' r).2) l).1 ∧ normC (run15 b f g (o ++ [(cstp b f g c r).1], (cstp b f g c r).2) l).2 = normC (run15 b f g (o ++ [(cstp b f g c' r).1], (cstp b f g c' r).2) l).2
    rw [h2.1]
    exact ih _ _ _ h2.2
theorem run_pre {b : Bool} {f g : List Opc} (l : List Rec) : ∀ (o : List Rec) (c : Rec), run15 b f g (o, c) l = (o ++ (run15 b f g ([], c) l).1, (run15 b f g ([], c) l).2) := by
  induction l with
  | nil => intro o c; simp [run15]
  | cons r l ih =>
    intro o c
    have h1 : run15 b f g (o, c) (r :: l) = run15 b f g (o ++ [(cstp b f g c r).1], (cstp b f g c r).2) l := rfl
    have h2 : run15 b f g ([], c) (r :: l) = run15 b f g ([(cstp b f g c r).1], (cstp b f g c r).2) l := rfl
    rw [h1, h2, ih, ih [(cstp b f g c r).1]]
    simp
theorem swp_perm (sq : Bool) (x : List Rec) (i : Nat) (h : i + 1 < x.length) : (swp sq i x).Perm x := by
  by_cases ha : ahd sq (x.getD (i + 1) default) (x.getD i default) = true
  · rw [swp_split sq x i h ha]
    conv => rhs; rw [split_at2 x i h]
    exact List.Perm.append_left _ (List.Perm.swap _ _ _)
  · unfold swp
    rw [if_neg ha]
theorem srow_perm (sq : Bool) (r n : Nat) : ∀ (i : Nat) (x : List Rec), x.length = n → (srow sq r n i x).Perm x := by
  intro i x
  induction i, x using srow.induct (sq := sq) (r := r) (n := n) with
  | case1 i x h ih =>
    intro hx
    simp only [dite_eq_ite] at ih
    have hl : (if i % 2 = r % 2 then swp sq i x else x).length = n := by
      split
      · rw [swp_len]; exact hx
      · exact hx
    rw [srow_next h]
    refine (ih hl).trans ?_
    split
    · exact swp_perm sq x i (by omega)
    · exact .refl _
  | case2 i x h => intro hx; rw [srow_end h]
theorem srows_perm (sq : Bool) (n : Nat) : ∀ (t : Nat) (x : List Rec), x.length = n → (srows sq n t x).Perm x := by
  intro t x
  induction t, x using srows.induct (sq := sq) (n := n) with
  | case1 t x h ih =>
    intro hx
    rw [srows_next h]
    exact (ih (by rw [srow_len]; exact hx)).trans (srow_perm sq t n 0 x hx)
  | case2 t x h => intro hx; rw [srows_done (.inl h)]
theorem msort_perm (sq : Bool) (l : List Rec) : (msort sq l).Perm l := srows_perm sq _ 0 l rfl
def valK (k : Int64) (S : List Rec) : List Int64 := (S.filter fun r => decide (r.dead = false ∧ r.key = k)).map (·.value)
def fold1 (F : Int64 → Int64 → Int64) : List Int64 → Option Int64
  | [] => none
  | v :: vs => some (vs.foldl F v)
def fldK (F : Int64 → Int64 → Int64) (k : Int64) (S : List Rec) : Option Int64 := fold1 F (valK k S)
theorem fold1_app (F : Int64 → Int64 → Int64) (vs : List Int64) (x : Int64) : fold1 F (vs ++ [x]) = some (match fold1 F vs with | none => x | some v => F v x) := by
  cases vs with
  | nil => rfl
  | cons v vs => simp [fold1]
theorem valK_app (k : Int64) (S T : List Rec) : valK k (S ++ T) = valK k S ++ valK k T := by simp [valK]
theorem valK_one {k : Int64} {r : Rec} : valK k [r] = if r.dead = false ∧ r.key = k then [r.value] else [] := by
  unfold valK
  rw [List.filter_cons]
  by_cases h : r.dead = false ∧ r.key = k <;> simp [h]
theorem fldK_no {F : Int64 → Int64 → Int64} {k : Int64} {S : List Rec} {r : Rec} (h : ¬ (r.dead = false ∧ r.key = k)) : fldK F k (S ++ [r]) = fldK F k S := by
  unfold fldK
  rw [valK_app, valK_one, if_neg h, List.append_nil]
theorem fldK_yes {F : Int64 → Int64 → Int64} {k : Int64} {S : List Rec} {r : Rec} (h : r.dead = false ∧ r.key = k) : fldK F k (S ++ [r]) = some (match fldK F k S with | none => r.value | some v => F v r.value) := by
  unfold fldK
  rw [valK_app, valK_one, if_pos h, fold1_app]
theorem fold1_none {F : Int64 → Int64 → Int64} {vs : List Int64} : fold1 F vs = none ↔ vs = [] := by cases vs <;> simp [fold1]
theorem fldK_mem {F : Int64 → Int64 → Int64} {k : Int64} {S : List Rec} : (fldK F k S).isSome = true ↔ ∃ a ∈ S, a.dead = false ∧ a.key = k := by
  unfold fldK valK
  rw [← Option.ne_none_iff_isSome, Ne, fold1_none, List.map_eq_nil_iff, List.filter_eq_nil_iff]
  simp
def alv (os : List Rec) : List (Int64 × Int64) := (os.filter fun r => !r.dead).map fun r => (r.key, r.value)
theorem alv_app (a b : List Rec) : alv (a ++ b) = alv a ++ alv b := by simp [alv]
theorem alv_dead : alv [deadR] = [] := rfl
theorem alv_live (k v s : Int64) : alv [⟨false, k, v, s⟩] = [(k, v)] := rfl
theorem rk_alive {sq : Bool} {a r : Rec} (h : rk sq a ≤ rk sq r) (hr : r.dead = false) : a.dead = false ∧ a.key.toInt ≤ r.key.toInt := by
  have h1 := i64_bd a.key
  have h2 := i64_bd r.key
  have h3 := i64_bd a.seq
  have h4 := i64_bd r.seq
  unfold rk at h
  rw [hr] at h
  cases ha : a.dead <;> rw [ha] at h <;> cases sq <;> simp at h
  · exact ⟨rfl, h⟩
  · exact ⟨rfl, by omega⟩
  · omega
  · omega
structure RunI (F G : Int64 → Int64 → Int64) (S : List Rec) (O : List (Int64 × Int64)) (cq : Rec) : Prop where
  cur : cq.dead = false → fldK F cq.key S = some cq.value
  asc : O.Pairwise fun a b => a.1.toInt < b.1.toInt
  lt : cq.dead = false → ∀ p ∈ O, p.1.toInt < cq.key.toInt
  val : ∀ p ∈ O, ∃ v, fldK F p.1 S = some v ∧ p.2 = G v p.1
  all : ∀ k, (fldK F k S).isSome = true → k ∈ O.map (·.1) ∨ (cq.dead = false ∧ k = cq.key)
  dd : cq.dead = true → S = [] ∨ ∃ d ∈ S, d.dead = true
theorem runI_0 (F G : Int64 → Int64 → Int64) : RunI F G [] [] deadR :=
  ⟨fun h => (by cases h), List.Pairwise.nil, fun h => (by cases h), fun p h => (by cases h), fun k h => (by simp [fldK, valK, fold1] at h), fun _ => .inl rfl⟩
theorem runI_step {sq b : Bool} {f g : List Opc} {S : List Rec} {O : List (Int64 × Int64)} {cq r : Rec} (h : RunI (doneC b f) (doneC b g) S O cq) (hs : ∀ a ∈ S, rk sq a ≤ rk sq r) :
    RunI (doneC b f) (doneC b g) (S ++ [r]) (O ++ alv [(cstp b f g cq r).1]) (cstp b f g cq r).2 := by
  cases hr : r.dead
  · have hal : ∀ a ∈ S, a.dead = false ∧ a.key.toInt ≤ r.key.toInt := fun a ha => rk_alive (hs a ha) hr
    cases hc : cq.dead
    · have hcur := h.cur hc
      by_cases hk : r.key = cq.key
      · rw [cstp_1 hr hc hk, alv_dead, List.append_nil]
        have hne : ∀ p ∈ O, ¬ (r.dead = false ∧ r.key = p.1) := fun p hp e => by
          have := h.lt hc p hp
          rw [← e.2, hk] at this
          omega
        refine ⟨fun _ => ?_, h.asc, fun _ => h.lt hc, fun p hp => ?_, fun k hk2 => ?_, fun e => ?_⟩
        · show fldK _ cq.key _ = _
          rw [fldK_yes ⟨hr, hk⟩, hcur]
        · obtain ⟨v, h1, h2⟩ := h.val p hp
          exact ⟨v, by rw [fldK_no (hne p hp)]; exact h1, h2⟩
        · by_cases e : r.key = k
          · exact .inr ⟨hc, by rw [← e]; exact hk⟩
          · rw [fldK_no (fun q => e q.2)] at hk2
            rcases h.all k hk2 with h3 | h3
            · exact .inl h3
            · exact .inr ⟨hc, h3.2⟩
        · exact absurd (show cq.dead = true from e) (by rw [hc]; decide)
      · rw [cstp_d hr hc hk, alv_live]
        obtain ⟨a0, ha0, hd0, hk0⟩ := fldK_mem.1 (by rw [hcur]; rfl : (fldK (doneC b f) cq.key S).isSome = true)
        have hlt : cq.key.toInt < r.key.toInt := by
          have h1 := (hal a0 ha0).2
          rw [hk0] at h1
          have h2 : cq.key.toInt ≠ r.key.toInt := fun e => hk (Int64.toInt_inj.1 e).symm
          omega
        have hnone : fldK (doneC b f) r.key S = none := by
          cases hz : fldK (doneC b f) r.key S with
          | none => rfl
          | some v =>
            rcases h.all r.key (by rw [hz]; rfl) with h3 | h3
            · obtain ⟨p, hp, e⟩ := List.mem_map.1 h3
              have := h.lt hc p hp
              rw [e] at this
              omega
            · exact absurd h3.2 hk
        refine ⟨fun _ => ?_, ?_, fun _ p hp => ?_, fun p hp => ?_, fun k hk2 => ?_, fun e => ?_⟩
        · show fldK _ r.key _ = some r.value
          rw [fldK_yes ⟨hr, rfl⟩, hnone]
        · refine List.pairwise_append.2 ⟨h.asc, by simp, fun a ha c hc2 => ?_⟩
          rw [List.mem_singleton] at hc2
          subst hc2
          exact h.lt hc a ha
        · show p.1.toInt < r.key.toInt
          rcases List.mem_append.1 hp with hp | hp
          · have := h.lt hc p hp; omega
          · rw [List.mem_singleton] at hp; subst hp; exact hlt
        · rcases List.mem_append.1 hp with hp | hp
          · obtain ⟨v, h1, h2⟩ := h.val p hp
            refine ⟨v, ?_, h2⟩
            rw [fldK_no]
            · exact h1
            · intro e
              have := h.lt hc p hp
              rw [← e.2] at this
              omega
          · rw [List.mem_singleton] at hp
            subst hp
            exact ⟨cq.value, by rw [fldK_no (fun e => hk e.2)]; exact hcur, rfl⟩
        · by_cases e : r.key = k
          · exact .inr ⟨rfl, e.symm⟩
          · rw [fldK_no (fun q => e q.2)] at hk2
            refine .inl ?_
            rw [List.map_append, List.mem_append]
            rcases h.all k hk2 with h3 | h3
            · exact .inl h3
            · exact .inr (by simp [h3.2])
        · cases e
    · have hS : S = [] := by
        rcases h.dd hc with h1 | ⟨d, h1, h2⟩
        · exact h1
        · have := (hal d h1).1
          rw [h2] at this
          cases this
      have hO : O = [] := by
        cases hO : O with
        | nil => rfl
        | cons p O' =>
          obtain ⟨v, h1, -⟩ := h.val p (by rw [hO]; exact List.mem_cons_self)
          rw [hS] at h1
          simp [fldK, valK, fold1] at h1
      subst hS hO
      rw [cstp_c hr hc, alv_dead, List.append_nil]
      refine ⟨fun _ => ?_, List.Pairwise.nil, fun _ p hp => (by cases hp), fun p hp => (by cases hp), fun k hk2 => ?_, fun e => (by cases e)⟩
      · show fldK _ r.key _ = some r.value
        rw [fldK_yes ⟨hr, rfl⟩]
        rfl
      · obtain ⟨a, ha, -, e⟩ := fldK_mem.1 hk2
        rw [List.nil_append, List.mem_singleton] at ha
        subst ha
        exact .inr ⟨rfl, e.symm⟩
  · have hno : ∀ k, fldK (doneC b f) k (S ++ [r]) = fldK (doneC b f) k S := fun k => fldK_no (fun e => by rw [hr] at e; cases e.1)
    cases hc : cq.dead
    · rw [cstp_b hr hc, alv_live]
      refine ⟨fun e => (by cases e), ?_, fun e => (by cases e), fun p hp => ?_, fun k hk2 => ?_, fun _ => .inr ⟨r, by simp, hr⟩⟩
      · refine List.pairwise_append.2 ⟨h.asc, by simp, fun a ha c hc2 => ?_⟩
        rw [List.mem_singleton] at hc2
        subst hc2
        exact h.lt hc a ha
      · rw [hno]
        rcases List.mem_append.1 hp with hp | hp
        · exact h.val p hp
        · rw [List.mem_singleton] at hp
          subst hp
          exact ⟨cq.value, h.cur hc, rfl⟩
      · rw [hno] at hk2
        refine .inl ?_
        rw [List.map_append, List.mem_append]
        rcases h.all k hk2 with h3 | h3
        · exact .inl h3
        · exact .inr (by simp [h3.2])
    · rw [cstp_a hr hc, alv_dead, List.append_nil]
      refine ⟨fun e => (by cases e), h.asc, fun e => (by cases e), fun p hp => (by rw [hno]; exact h.val p hp), fun k hk2 => ?_, fun _ => .inr ⟨r, by simp, hr⟩⟩
      rw [hno] at hk2
      rcases h.all k hk2 with h3 | h3
      · exact .inl h3
      · rw [hc] at h3; cases h3.1
theorem runI_all {sq b : Bool} {f g : List Opc} {s : List Rec} (hs : Srt sq s) : ∀ i, i ≤ s.length → RunI (doneC b f) (doneC b g) (s.take i) (alv (run15 b f g ([], deadR) (s.take i)).1) (run15 b f g ([], deadR) (s.take i)).2
  | 0, _ => runI_0 _ _
  | i + 1, h => by
    have ih := runI_all (b := b) (f := f) (g := g) hs i (by omega)
    rw [List.take_succ_eq_append_getElem (by omega), run15_app]
    have hst := runI_step (sq := sq) (r := s[i]) ih (fun a ha => by
      obtain ⟨j, hj, rfl⟩ := List.getElem_of_mem ha
      rw [List.getElem_take]
      rw [List.length_take] at hj
      exact List.pairwise_iff_getElem.1 hs j i (by omega) (by omega) (by omega))
    have e : run15 b f g (run15 b f g ([], deadR) (s.take i)) [s[i]] = ((run15 b f g ([], deadR) (s.take i)).1 ++ [(cstp b f g (run15 b f g ([], deadR) (s.take i)).2 s[i]).1], (cstp b f g (run15 b f g ([], deadR) (s.take i)).2 s[i]).2) := rfl
    rw [e]
    show RunI _ _ _ (alv (_ ++ [_])) _
    rw [alv_app]
    exact hst
structure OutI (F G : Int64 → Int64 → Int64) (S : List Rec) (O : List (Int64 × Int64)) : Prop where
  asc : O.Pairwise fun a b => a.1.toInt < b.1.toInt
  val : ∀ p ∈ O, ∃ v, fldK F p.1 S = some v ∧ p.2 = G v p.1
  all : ∀ k, (fldK F k S).isSome = true → k ∈ O.map (·.1)
theorem outI_of {sq b : Bool} {f g : List Opc} {s : List Rec} (hs : Srt sq s) (hl : ∀ x, s.getLast? = some x → x.dead = true) : OutI (doneC b f) (doneC b g) s (alv (run15 b f g ([], deadR) s).1) ∧ (run15 b f g ([], deadR) s).2.dead = true := by
  have h := runI_all (b := b) (f := f) (g := g) hs s.length (Nat.le_refl _)
  rw [List.take_of_length_le (Nat.le_refl _)] at h
  have hd : (run15 b f g ([], deadR) s).2.dead = true := by
    cases e : s.getLast? with
    | none => rw [List.getLast?_eq_none_iff.1 e]; rfl
    | some x =>
      have hx := hl x e
      obtain ⟨t, rfl⟩ : ∃ t, s = t ++ [x] := by
        rw [List.getLast?_eq_some_iff] at e
        exact e
      rw [run15_app]
      show (cstp b f g (run15 b f g ([], deadR) t).2 x).2.dead = true
      cases hc : (run15 b f g ([], deadR) t).2.dead
      · rw [cstp_b hx hc]; rfl
      · rw [cstp_a hx hc]; rfl
  refine ⟨⟨h.asc, h.val, fun k hk => ?_⟩, hd⟩
  rcases h.all k hk with h1 | h1
  · exact h1
  · rw [hd] at h1; cases h1.1
end Go.Proofs.Ytldkjjnjdjfipaa
namespace Go.Proofs.Ytldkjjnjdjfipaa
open Go Go.RowKit
set_option linter.unusedVariables false
set_option linter.unusedSimpArgs false
abbrev Pr := Int64 × Int64
def elI (l : List Pr) (i : Nat) : Rec := if i < l.length then ⟨false, (l.getD i default).1, (l.getD i default).2, Int64.ofNat i⟩ else deadR
def inp (S : Nat) (l : List Pr) (a : Nat) : List Rec := (List.range S).map fun j => elI l (a * S + j)
@[reducible] def prV (p : Pr) : List Value := [.int .i64 p.1.toInt, .int .i64 p.2.toInt]
theorem prV_len (p : Pr) : (prV p).length = 2 := rfl
theorem prV_one (p : Pr) : (prV p).all Value.oneCell' = true := rfl
def inT (l : List Pr) (s i : Nat) : List Rec := (List.range i).map fun j => elI l (s + j)
theorem inT_next (l : List Pr) (s i : Nat) : inT l s i ++ [elI l (s + i)] = inT l s (i + 1) := by simp [inT, List.range_succ]
theorem in_y {l : List Pr} {xs : List Rec} {s i : Nat} (h : xs = inT l s i) (hk : s + i < l.length) : xs ++ [Rec.mk false (l.getD (s + i) default).1 (l.getD (s + i) default).2 (Int64.ofNat (s + i))] = inT l s (i + 1) := by
  subst h
  rw [← inT_next]
  unfold elI
  rw [if_pos hk]
theorem in_n {l : List Pr} {xs : List Rec} {s i : Nat} (h : xs = inT l s i) (hk : ¬ s + i < l.length) : xs ++ [deadR] = inT l s (i + 1) := by
  subst h
  rw [← inT_next]
  unfold elI
  rw [if_neg hk]
theorem onat {n : Nat} (h : n < 9223372036854775808) : ((n : Nat) : Int) = (Int64.ofNat n).toInt := (Int64.toInt_ofNat_of_lt h).symm
def mpR (b : Bool) (k : Int) (lm : List Opc) (r : Rec) : List Rec := (mapC b k lm r.seq r.key r.value).map fun x => if r.dead = true then deadR else x
def mpL (b : Bool) (k : Int) (lm : List Opc) (l : List Rec) : List Rec := l.flatMap (mpR b k lm)
def cutS (S m : Nat) (l : List Rec) : List (List Rec) := (List.range m).map fun q => msort true ((l.drop (S * q)).take S)
def mpB (b : Bool) (k : Int) (lm : List Opc) (S m : Nat) (l : List Rec) : List (List Rec) := cutS S m (mpL b k lm l)
def mpA (b : Bool) (k : Int) (lm : List Opc) (S m : Nat) (l : List Pr) (n : Nat) : List (List Rec) := (List.range n).flatMap fun a => mpB b k lm S m (inp S l a)
def dds (S : Nat) : List Rec := List.replicate S deadR
def mpD (b : Bool) (k : Int) (lm : List Opc) (S m : Nat) (l : List Pr) (n N : Nat) : List (List Rec) := mpA b k lm S m l n ++ List.replicate (N - (mpA b k lm S m l n).length) (dds S)
def fdT (b : Bool) (f g : List Opc) (X : List (List Rec)) : Nat → List (List Rec) × Rec
  | 0 => (X, deadR)
  | i + 1 => let s := fdT b f g X i; (s.1.set i (msort false (stepO b f g s.2 (s.1.getD i []))), stepC b f g s.2 (s.1.getD i []))
def st1 (K : Nat) (M : List (List Rec)) (t : Nat) : List (List Rec) := bnet true K M (min (t - 1) (rnd ((2 ^ K : Nat) : Int)))
def st2 (b : Bool) (f g : List Opc) (K : Nat) (M : List (List Rec)) : List (List Rec) := (fdT b f g (bnet true K M (rnd ((2 ^ K : Nat) : Int))) (2 ^ K)).1
def stg3 (b : Bool) (f g : List Opc) (K : Nat) (M : List (List Rec)) (t : Nat) : List (List Rec) :=
  if t < 2 + rnd ((2 ^ K : Nat) : Int) then st1 K M t else bnet false K (st2 b f g K M) (t - 2 - rnd ((2 ^ K : Nat) : Int))
theorem inp_len (S : Nat) (l : List Pr) (a : Nat) : (inp S l a).length = S := by simp [inp]
theorem mpB_len {b : Bool} {k : Int} {lm : List Opc} {S m : Nat} {l : List Rec} : (mpB b k lm S m l).length = m := by simp [mpB, cutS]
theorem mpA_len {b : Bool} {k : Int} {lm : List Opc} {S m : Nat} {l : List Pr} (n : Nat) : (mpA b k lm S m l n).length = n * m := by
  induction n with
  | zero => simp [mpA]
  | succ n ih =>
    unfold mpA at ih ⊢
    rw [List.range_succ, List.flatMap_append, List.length_append, ih]
    simp [mpB_len, Nat.succ_mul]
theorem mpA_next {b : Bool} {k : Int} {lm : List Opc} {S m : Nat} {l : List Pr} (n : Nat) : mpA b k lm S m l n ++ mpB b k lm S m (inp S l n) = mpA b k lm S m l (n + 1) := by
  unfold mpA
  rw [List.range_succ, List.flatMap_append]
  simp
theorem mpR_len {k : Int} {a b c : List Opc} (h : chkB k a b c = true) (r : Rec) : (mpR (chkB k a b c) k a r).length = k.toNat := by
  unfold mpR mapC mapP
  rw [List.length_map, if_pos h, runM_s, List.length_replicate]
theorem mpL_len {k : Int} {a b c : List Opc} (h : chkB k a b c = true) (l : List Rec) : (mpL (chkB k a b c) k a l).length = l.length * k.toNat := by
  induction l with
  | nil => simp [mpL]
  | cons r l ih =>
    unfold mpL at ih ⊢
    rw [List.flatMap_cons, List.length_append, ih, mpR_len h, List.length_cons, Nat.succ_mul]
    omega
theorem cut_len {S m : Nat} {l : List Rec} (h : l.length = S * m) {q : Nat} (hq : q < m) : ((l.drop (S * q)).take S).length = S := by
  have h1 := Nat.mul_le_mul_left S (show q + 1 ≤ m by omega)
  rw [Nat.mul_succ] at h1
  rw [List.length_take, List.length_drop]
  omega
theorem cutS_inv {S m : Nat} {l : List Rec} (h : l.length = S * m) : ∀ x ∈ cutS S m l, x.length = S ∧ Srt true x := by
  intro x hx
  obtain ⟨q, hq, rfl⟩ := List.mem_map.1 hx
  exact ⟨by rw [msort_len]; exact cut_len h (List.mem_range.1 hq), srt_msort true _⟩
theorem cutS_perm {S : Nat} : ∀ (m : Nat) {l : List Rec}, l.length = S * m → (cutS S m l).flatten.Perm l
  | 0, l, h => by
    have : l = [] := List.eq_nil_of_length_eq_zero (by simpa using h)
    subst this
    simp [cutS]
  | m + 1, l, h => by
    rw [Nat.mul_succ] at h
    have e : (cutS S (m + 1) l) = cutS S m (l.take (S * m)) ++ [msort true ((l.drop (S * m)).take S)] := by
      unfold cutS
      rw [List.range_succ, List.map_append]
      congr 1
      refine List.map_congr_left fun q hq => ?_
      rw [List.mem_range] at hq
      have h1 := Nat.mul_le_mul_left S (show q + 1 ≤ m by omega)
      rw [Nat.mul_succ] at h1
      congr 1
      rw [List.drop_take, List.take_take]
      congr 1
      omega
    rw [e, List.flatten_append]
    have h2 : l = l.take (S * m) ++ (l.drop (S * m)).take S := by
      rw [List.take_of_length_le (l := l.drop (S * m)) (by rw [List.length_drop]; omega), List.take_append_drop]
    conv => rhs; rw [h2]
    refine List.Perm.append (cutS_perm m (by rw [List.length_take]; omega)) ?_
    simp only [List.flatten_cons, List.flatten_nil, List.append_nil]
    exact msort_perm true _
section
variable {k : Int} {a b c : List Opc} {S : Nat} {l : List Pr}
theorem mpB_inv (h : chkB k a b c = true) (x : List Rec) (hx : x.length = S) : (∀ y ∈ mpB (chkB k a b c) k a S k.toNat x, y.length = S ∧ Srt true y) ∧ (mpB (chkB k a b c) k a S k.toNat x).flatten.Perm (mpL (chkB k a b c) k a x) := by
  have hl := mpL_len h x
  rw [hx] at hl
  exact ⟨cutS_inv hl, cutS_perm _ hl⟩
theorem mpA_inv (h : chkB k a b c = true) (n : Nat) : (∀ y ∈ mpA (chkB k a b c) k a S k.toNat l n, y.length = S ∧ Srt true y) ∧ (mpA (chkB k a b c) k a S k.toNat l n).flatten.Perm (mpL (chkB k a b c) k a ((List.range n).flatMap (inp S l))) := by
  induction n with
  | zero => exact ⟨fun y hy => by simp [mpA] at hy, by simp [mpA, mpL]⟩
  | succ n ih =>
    have h2 := mpB_inv (S := S) h (inp S l n) (inp_len S l n)
    rw [← mpA_next]
    refine ⟨fun y hy => ?_, ?_⟩
    · rcases List.mem_append.1 hy with hy | hy
      · exact ih.1 y hy
      · exact h2.1 y hy
    · rw [List.flatten_append, List.range_succ, List.flatMap_append]
      simp only [mpL, List.flatMap_append, List.flatMap_cons, List.flatMap_nil, List.append_nil]
      exact ih.2.append h2.2
theorem srt_dds (sq : Bool) (S : Nat) : Srt sq (dds S) := by
  unfold Srt dds
  rw [List.pairwise_replicate]
  exact .inr (Int.le_refl _)
theorem mpD_inv (h : chkB k a b c = true) {n N : Nat} (hN : n * k.toNat ≤ N) : BInv true N S (mpD (chkB k a b c) k a S k.toNat l n N) ∧
    (mpD (chkB k a b c) k a S k.toNat l n N).flatten.Perm (mpL (chkB k a b c) k a ((List.range n).flatMap (inp S l)) ++ List.replicate ((N - n * k.toNat) * S) deadR) := by
  have h1 := mpA_inv (S := S) (l := l) h n
  have h2 := mpA_len (b := chkB k a b c) (k := k) (lm := a) (S := S) (m := k.toNat) (l := l) n
  unfold mpD
  refine ⟨⟨by rw [List.length_append, h2, List.length_replicate]; omega, fun x hx => ?_⟩, ?_⟩
  · rcases List.mem_append.1 hx with hx | hx
    · exact h1.1 x hx
    · rw [(List.mem_replicate.1 hx).2]
      exact ⟨by simp [dds], srt_dds true S⟩
  · rw [List.flatten_append, h2]
    refine h1.2.append ?_
    have : ∀ j, (List.replicate j (dds S)).flatten = List.replicate (j * S) deadR := fun j => by
      induction j with
      | zero => simp
      | succ j ih => rw [List.replicate_succ, List.flatten_cons, ih, dds, List.replicate_append_replicate, Nat.succ_mul, Nat.add_comm]
    rw [this]
end
end Go.Proofs.Ytldkjjnjdjfipaa
namespace Go.Proofs.Ytldkjjnjdjfipaa
open Go Go.RowKit
set_option linter.unusedVariables false
set_option linter.unusedSimpArgs false
theorem set_fl : ∀ (B : List (List Rec)) (i : Nat) (x : List Rec), i < B.length → ((B.set i x).flatten ++ B.getD i []).Perm (B.flatten ++ x)
  | [], i, x, h => absurd h (by simp)
  | y :: B, 0, x, h => by
    show (x ++ B.flatten ++ y).Perm (y ++ B.flatten ++ x)
    refine (List.perm_append_comm).trans ?_
    rw [List.append_assoc]
    exact List.Perm.append_left y (List.perm_append_comm)
  | y :: B, i + 1, x, h => by
    show (y ++ (B.set i x).flatten ++ B.getD i []).Perm (y ++ B.flatten ++ x)
    rw [List.append_assoc, List.append_assoc]
    exact List.Perm.append_left y (set_fl B i x (by simpa using h))
theorem set2_fl {B : List (List Rec)} {i j : Nat} {x y : List Rec} (hi : i < B.length) (hj : j < B.length) (hij : i ≠ j) (h : (x ++ y).Perm (B.getD i [] ++ B.getD j [])) : ((B.set i x).set j y).flatten.Perm B.flatten := by
  have h1 := set_fl B i x hi
  have h2 := set_fl (B.set i x) j y (by rw [List.length_set]; exact hj)
  rw [getD_set1 hi, if_neg (fun e => hij e.symm)] at h2
  have h3 := (h2.append_right (B.getD i [])).trans (((List.append_assoc _ _ _ ▸ (List.Perm.append_left _ List.perm_append_comm).trans (by rw [← List.append_assoc]; exact h1.append_right y)) : (((B.set i x).flatten ++ y) ++ B.getD i []).Perm ((B.flatten ++ x) ++ y)))
  rw [List.append_assoc, List.append_assoc] at h3
  refine (List.perm_append_right_iff (B.getD i [] ++ B.getD j [])).1 ?_
  exact ((List.Perm.append_left _ List.perm_append_comm).trans h3).trans (List.Perm.append_left _ h)
theorem blkStep_perm {sq u : Bool} {d : Nat} {B : List (List Rec)} {a : Nat} (hd : 0 < d) (ha : a + d < B.length) : (blkStep sq u d B a).flatten.Perm B.flatten := by
  unfold blkStep
  refine set2_fl (by omega) ha (by omega) ?_
  have hp : (mgd sq (B.getD a []) (B.getD (a + d) [])).Perm (B.getD a [] ++ B.getD (a + d) []) := by
    have := msort_perm sq ([B.getD a [], B.getD (a + d) []].flatten)
    simpa [mgd] using this
  cases u
  · simp only [Bool.false_eq_true, if_false]
    refine (List.perm_append_comm).trans ?_
    rw [List.take_append_drop]
    exact hp
  · simp only [if_true]
    rw [List.take_append_drop]
    exact hp
theorem bcmp_perm {sq : Bool} {K r S : Nat} {X : List (List Rec)} (hK : K ≤ 16) (hr : r < rnd ((2 ^ K : Nat) : Int)) (hX : BInv sq (2 ^ K) S X) : ∀ i, i ≤ (frs ((2 ^ K : Nat) : Int) (r : Int)).length → BInv sq (2 ^ K) S (bcmp sq K r X i) ∧ (bcmp sq K r X i).flatten.Perm X.flatten
  | 0, _ => ⟨by simpa [bcmp] using hX, by simp [bcmp]⟩
  | i + 1, h => by
    obtain ⟨h1, h2⟩ := bcmp_perm hK hr hX i (by omega)
    obtain ⟨a, p⟩ := pairK hK hr (show i < _ from h)
    refine ⟨bst_inv rfl h1 h p, ?_⟩
    rw [bcmp_succ h, p.g]
    exact (blkStep_perm (Nat.two_pow_pos _) (by rw [h1.1]; exact p.lt)).trans h2
theorem bnet_perm {sq : Bool} {K S : Nat} {B : List (List Rec)} (hK : K ≤ 16) (hB : BInv sq (2 ^ K) S B) : ∀ r, r ≤ rnd ((2 ^ K : Nat) : Int) → BInv sq (2 ^ K) S (bnet sq K B r) ∧ (bnet sq K B r).flatten.Perm B.flatten
  | 0, _ => ⟨hB, List.Perm.refl _⟩
  | r + 1, h => by
    obtain ⟨h1, h2⟩ := bnet_perm hK hB r (by omega)
    have h3 := bcmp_perm hK (show r < _ from h) h1 _ (Nat.le_refl _)
    rw [bcmp_all hK h (Nat.le_refl _)] at h3
    exact ⟨h3.1, h3.2.trans h2⟩
structure FdI (b : Bool) (f g : List Opc) (X : List (List Rec)) (i : Nat) (s : List (List Rec) × Rec) (Os : List (List Rec)) : Prop where
  n : Os.length = i
  y : s.1 = Os.map (msort false) ++ X.drop i
  o : Os.flatten = (run15 b f g ([], deadR) (X.take i).flatten).1
  c : s.2 = normC (run15 b f g ([], deadR) (X.take i).flatten).2
  z : ∀ x ∈ Os, ∃ y ∈ X, x.length = y.length
theorem fdI {b : Bool} (hb : b = true) {f g : List Opc} {X : List (List Rec)} : ∀ i, i ≤ X.length → ∃ Os, FdI b f g X i (fdT b f g X i) Os
  | 0, _ => ⟨[], rfl, by simp [fdT], by simp [run15], by simp [fdT, run15, normC, deadR], fun x h => by cases h⟩
  | i + 1, h => by
    obtain ⟨Os, I⟩ := fdI hb (f := f) (g := g) (X := X) i (by omega)
    have hx : (fdT b f g X i).1.getD i [] = X[i] := by
      rw [I.y, List.getD_eq_getElem?_getD, List.getElem?_append_right (by rw [List.length_map, I.n]; omega), List.length_map, I.n, Nat.sub_self, List.getElem?_drop, Nat.add_zero, List.getElem?_eq_getElem (by omega)]
      rfl
    have e : (X.take (i + 1)).flatten = (X.take i).flatten ++ X[i] := by rw [List.take_succ_eq_append_getElem (by omega), List.flatten_append]; simp
    have hr := run15_app b f g ([], deadR) (X.take i).flatten X[i]
    have hp := run_pre (b := b) (f := f) (g := g) X[i] (run15 b f g ([], deadR) (X.take i).flatten).1 (run15 b f g ([], deadR) (X.take i).flatten).2
    have hv := run_eqv (b := b) (f := f) (g := g) X[i] [] (fdT b f g X i).2 (run15 b f g ([], deadR) (X.take i).flatten).2 (by rw [I.c, norm_norm])
    have hO : stepO b f g (fdT b f g X i).2 X[i] = (run15 b f g ([], (run15 b f g ([], deadR) (X.take i).flatten).2) X[i]).1 := by unfold stepO; rw [if_pos hb, hv.1]
    have hC : stepC b f g (fdT b f g X i).2 X[i] = normC (run15 b f g ([], (run15 b f g ([], deadR) (X.take i).flatten).2) X[i]).2 := by unfold stepC; rw [if_pos hb, hv.2]
    have hr2 : run15 b f g ([], deadR) (X.take (i + 1)).flatten = ((run15 b f g ([], deadR) (X.take i).flatten).1 ++ stepO b f g (fdT b f g X i).2 X[i], (run15 b f g ([], (run15 b f g ([], deadR) (X.take i).flatten).2) X[i]).2) := by
      rw [e, hr, hO]
      exact hp
    have hstep : fdT b f g X (i + 1) = ((fdT b f g X i).1.set i (msort false (stepO b f g (fdT b f g X i).2 X[i])), stepC b f g (fdT b f g X i).2 X[i]) := by
      rw [← hx]; rfl
    refine ⟨Os ++ [stepO b f g (fdT b f g X i).2 X[i]], ?_, ?_, ?_, ?_, ?_⟩
    · rw [List.length_append, I.n]; rfl
    · rw [hstep]
      show ((fdT b f g X i).1.set i _) = _
      rw [I.y, List.set_append_right _ _ (by rw [List.length_map, I.n]; omega), List.length_map, I.n, Nat.sub_self, List.drop_eq_getElem_cons (by omega), List.set_cons_zero, List.map_append]
      simp
    · rw [hr2, List.flatten_append, I.o]; simp
    · rw [hstep, hr2]; exact hC
    · intro x hx2
      rcases List.mem_append.1 hx2 with hx2 | hx2
      · exact I.z x hx2
      · rw [List.mem_singleton] at hx2
        subst hx2
        exact ⟨X[i], List.getElem_mem _, stepO_len hb⟩
theorem perm_map_msort (sq : Bool) : ∀ (Os : List (List Rec)), (Os.map (msort sq)).flatten.Perm Os.flatten
  | [] => List.Perm.refl _
  | o :: Os => by
    show (msort sq o ++ (Os.map (msort sq)).flatten).Perm (o ++ Os.flatten)
    exact (msort_perm sq o).append (perm_map_msort sq Os)
theorem asc_eq {O : List Pr} (h : O.Pairwise fun a b => a.1.toInt < b.1.toInt) {x y : Pr} (hx : x ∈ O) (hy : y ∈ O) (e : x.1 = y.1) : x = y := by
  obtain ⟨i, hi, rfl⟩ := List.getElem_of_mem hx
  obtain ⟨j, hj, rfl⟩ := List.getElem_of_mem hy
  rcases Nat.lt_trichotomy i j with h1 | h1 | h1
  · have := List.pairwise_iff_getElem.1 h i j hi hj h1; rw [e] at this; omega
  · subst h1; rfl
  · have := List.pairwise_iff_getElem.1 h j i hj hi h1; rw [e] at this; omega
theorem outI_unique {F G : Int64 → Int64 → Int64} {S T : List Rec} {O Q : List Pr} (h1 : OutI F G S O) (h2 : OutI F G T Q) (h : ∀ k, fldK F k S = fldK F k T) : O = Q := by
  have sub : ∀ {S T : List Rec} {O Q : List Pr}, OutI F G S O → OutI F G T Q → (∀ k, fldK F k S = fldK F k T) → ∀ p ∈ O, p ∈ Q := fun {S T O Q} h1 h2 h p hp => by
    obtain ⟨v, e1, e2⟩ := h1.val p hp
    obtain ⟨q, hq, e3⟩ := List.mem_map.1 (h2.all p.1 (by rw [← h, e1]; rfl))
    obtain ⟨u, e4, e5⟩ := h2.val q hq
    have : q = p := by
      rw [e3, ← h, e1] at e4
      have e6 : v = u := Option.some.inj e4
      exact Prod.ext e3 (by rw [e5, e2, e3, e6])
    exact this ▸ hq
  have nd : ∀ {O : List Pr}, (O.Pairwise fun a b => a.1.toInt < b.1.toInt) → O.Nodup := fun {O} h => h.imp (fun {a b} hl e => by rw [e] at hl; omega)
  have hp : O.Perm Q := (List.perm_ext_iff_of_nodup (nd h1.asc) (nd h2.asc)).2 fun p => ⟨sub h1 h2 h p, sub h2 h1 (fun k => (h k).symm) p⟩
  refine hp.eq_of_pairwise (le := fun a b => a.1.toInt < b.1.toInt) (fun a b _ _ h1 h2 => by omega) h1.asc h2.asc
theorem srt_alv {T : List Rec} (h : Srt false T) : (alv T).Pairwise fun a b => a.1.toInt ≤ b.1.toInt := by
  unfold alv
  rw [List.pairwise_map, List.pairwise_filter]
  refine h.imp fun {a b} hab ha hb => ?_
  exact (rk_alive hab (by simpa using hb)).2
theorem alv_perm {S T : List Rec} (h : S.Perm T) : (alv S).Perm (alv T) := (h.filter _).map _
theorem alv_y {x : List Rec} {ps : List Pr} {i : Nat} (h : ps = alv (x.take i)) (hi : i < x.length) (hd : (x.getD i default).dead = false) : ps ++ [(((x.getD i default).key, (x.getD i default).value) : Pr)] = alv (x.take (i + 1)) := by
  have e : x.getD i default = x[i] := by rw [List.getD_eq_getElem?_getD, List.getElem?_eq_getElem hi, Option.getD_some]
  rw [List.take_succ_eq_append_getElem hi, alv_app, h, ← e]
  unfold alv
  simp only [List.filter_cons, hd]
  rfl
theorem alv_n {x : List Rec} {ps : List Pr} {i : Nat} (h : ps = alv (x.take i)) (hi : i < x.length) (hd : (x.getD i default).dead = true) : ps = alv (x.take (i + 1)) := by
  have e : x.getD i default = x[i] := by rw [List.getD_eq_getElem?_getD, List.getElem?_eq_getElem hi, Option.getD_some]
  rw [List.take_succ_eq_append_getElem hi, alv_app, h, ← e]
  unfold alv
  rw [List.filter_cons, hd]
  simp
theorem alv_sorted {T O : List Rec} (h : Srt false T) (hp : T.Perm O) (ho : (alv O).Pairwise fun a b => a.1.toInt < b.1.toInt) : alv T = alv O := by
  refine (alv_perm hp).eq_of_pairwise (le := fun a b => a.1.toInt ≤ b.1.toInt) (fun a b ha hb h1 h2 => ?_) (srt_alv h) (ho.imp fun {a b} h => by omega)
  exact asc_eq ho ((alv_perm hp).mem_iff.1 ha) hb (Int64.toInt_inj.1 (by omega))
structure PipeI (b : Bool) (f g : List Opc) (K S : Nat) (M : List (List Rec)) : Prop where
  inv1 : ∀ t, t ≤ rnd ((2 ^ K : Nat) : Int) → BInv true (2 ^ K) S (bnet true K M t)
  srt1 : Srt true (bnet true K M (rnd ((2 ^ K : Nat) : Int))).flatten
  prm1 : (bnet true K M (rnd ((2 ^ K : Nat) : Int))).flatten.Perm M.flatten
  inv2 : ∀ i, i ≤ 2 ^ K → (fdT b f g (bnet true K M (rnd ((2 ^ K : Nat) : Int))) i).1.length = 2 ^ K ∧ ∀ x ∈ (fdT b f g (bnet true K M (rnd ((2 ^ K : Nat) : Int))) i).1, x.length = S
  inv3 : ∀ t, t ≤ rnd ((2 ^ K : Nat) : Int) → BInv false (2 ^ K) S (bnet false K (st2 b f g K M) t)
  srt3 : Srt false (bnet false K (st2 b f g K M) (rnd ((2 ^ K : Nat) : Int))).flatten
  prm3 : (bnet false K (st2 b f g K M) (rnd ((2 ^ K : Nat) : Int))).flatten.Perm (run15 b f g ([], deadR) (bnet true K M (rnd ((2 ^ K : Nat) : Int))).flatten).1
theorem pipeI {b : Bool} (hb : b = true) {f g : List Opc} {K S : Nat} {M : List (List Rec)} (hK : K ≤ 16) (hM : BInv true (2 ^ K) S M) : PipeI b f g K S M := by
  have hn := bnet_perm hK hM
  have h1 := hn (rnd ((2 ^ K : Nat) : Int)) (Nat.le_refl _)
  have hs := bnet_srt hK hM (r := rnd ((2 ^ K : Nat) : Int)) rfl
  obtain ⟨X, hXe⟩ : ∃ X, X = bnet true K M (rnd ((2 ^ K : Nat) : Int)) := ⟨_, rfl⟩
  rw [← hXe] at h1 hs
  have hlen : ∀ {i : Nat} {Os : List (List Rec)}, FdI b f g X i (fdT b f g X i) Os → i ≤ 2 ^ K → (fdT b f g X i).1.length = 2 ^ K ∧ ∀ x ∈ (fdT b f g X i).1, x.length = S := fun {i Os} I hi => by
    refine ⟨by rw [I.y, List.length_append, List.length_map, I.n, List.length_drop, h1.1.1]; omega, fun x hx => ?_⟩
    rw [I.y] at hx
    rcases List.mem_append.1 hx with hx | hx
    · obtain ⟨o, ho, rfl⟩ := List.mem_map.1 hx
      obtain ⟨y, hy, e⟩ := I.z o ho
      rw [msort_len, e]
      exact (h1.1.2 y hy).1
    · exact (h1.1.2 x (List.mem_of_mem_drop hx)).1
  obtain ⟨Os, I⟩ := fdI hb (f := f) (g := g) (X := X) (2 ^ K) (by rw [h1.1.1]; exact Nat.le_refl _)
  have hst2 : st2 b f g K M = Os.map (msort false) := by
    unfold st2
    rw [← hXe, I.y, List.drop_of_length_le (by rw [h1.1.1]; exact Nat.le_refl _), List.append_nil]
  have hB2 : BInv false (2 ^ K) S (st2 b f g K M) := by
    have h2 := hlen I (Nat.le_refl _)
    have e : st2 b f g K M = (fdT b f g X (2 ^ K)).1 := by unfold st2; rw [← hXe]
    refine ⟨by rw [e]; exact h2.1, fun x hx => ⟨h2.2 x (by rw [← e]; exact hx), ?_⟩⟩
    rw [hst2] at hx
    obtain ⟨o, -, rfl⟩ := List.mem_map.1 hx
    exact srt_msort false o
  have hn3 := bnet_perm hK hB2
  refine ⟨fun t ht => (hn t ht).1, by rw [← hXe]; exact hs, by rw [← hXe]; exact h1.2, fun i hi => ?_, fun t ht => (hn3 t ht).1, bnet_srt hK hB2 rfl, ?_⟩
  · rw [← hXe]
    obtain ⟨Os', I'⟩ := fdI hb (f := f) (g := g) (X := X) i (by rw [h1.1.1]; exact hi)
    exact hlen I' hi
  · refine (hn3 _ (Nat.le_refl _)).2.trans ?_
    rw [← hXe, hst2]
    refine (perm_map_msort false Os).trans ?_
    have := I.o
    rw [List.take_of_length_le (by rw [h1.1.1]; exact Nat.le_refl _)] at this
    rw [this]
theorem rk_dead_max (sq : Bool) {r : Rec} (h : rk sq deadR ≤ rk sq r) : r.dead = true := by
  cases hr : r.dead
  · exact absurd (rk_alive h hr).1 (by decide)
  · rfl
theorem srt_last {sq : Bool} {T : List Rec} (h : Srt sq T) (hd : deadR ∈ T) {x : Rec} (hx : T.getLast? = some x) : x.dead = true := by
  rw [List.getLast?_eq_some_iff] at hx
  obtain ⟨t, rfl⟩ := hx
  rcases List.mem_append.1 hd with hd | hd
  · exact rk_dead_max sq ((List.pairwise_append.1 h).2.2 _ hd x (List.mem_singleton.2 rfl))
  · rw [List.mem_singleton] at hd; rw [← hd]; rfl
theorem pipe_out {b : Bool} (hb : b = true) {f g : List Opc} {K S : Nat} {M : List (List Rec)} (hK : K ≤ 16) (hM : BInv true (2 ^ K) S M) (hd : deadR ∈ M.flatten) :
    OutI (doneC b f) (doneC b g) (bnet true K M (rnd ((2 ^ K : Nat) : Int))).flatten (alv (bnet false K (st2 b f g K M) (rnd ((2 ^ K : Nat) : Int))).flatten) := by
  have I := pipeI hb (f := f) (g := g) hK hM
  have h := (outI_of (b := b) (f := f) (g := g) I.srt1 (fun x hx => srt_last I.srt1 (I.prm1.mem_iff.2 hd) hx)).1
  rw [alv_sorted I.srt3 I.prm3 h.asc]
  exact h
def org (b : Bool) (k : Int) (lm : List Opc) (l : List Pr) : List Rec := (List.range l.length).flatMap fun i => mapC b k lm (Int64.ofNat i) (l.getD i default).1 (l.getD i default).2
def lv (l : List Rec) : List Rec := l.filter fun r => !r.dead
theorem lv_app (a b : List Rec) : lv (a ++ b) = lv a ++ lv b := by simp [lv]
theorem lv_perm {a b : List Rec} (h : a.Perm b) : (lv a).Perm (lv b) := h.filter _
theorem valK_lv (k : Int64) (S : List Rec) : valK k (lv S) = valK k S := by
  unfold valK lv
  rw [List.filter_filter]
  congr 2
  funext r
  cases r.dead <;> simp
theorem fldK_lv (F : Int64 → Int64 → Int64) (k : Int64) (S : List Rec) : fldK F k (lv S) = fldK F k S := by unfold fldK; rw [valK_lv]
theorem lv_flatMap {α : Type} (l : List α) (f : α → List Rec) : lv (l.flatMap f) = l.flatMap fun x => lv (f x) := by
  induction l with
  | nil => rfl
  | cons x l ih => rw [List.flatMap_cons, List.flatMap_cons, lv_app, ih]
theorem lv_none {l : List Rec} (h : ∀ r ∈ l, r.dead = true) : lv l = [] := by
  unfold lv
  rw [List.filter_eq_nil_iff]
  intro r hr
  simp [h r hr]
theorem inp_all (S : Nat) (l : List Pr) (n : Nat) : (List.range n).flatMap (inp S l) = (List.range (n * S)).map (elI l) := by
  induction n with
  | zero => simp
  | succ n ih =>
    rw [List.range_succ, List.flatMap_append, ih, Nat.succ_mul, List.range_add, List.map_append, List.map_map]
    simp [inp]
theorem mpR_live {b : Bool} {k : Int} {lm : List Opc} {r : Rec} (h : r.dead = false) : mpR b k lm r = mapC b k lm r.seq r.key r.value := by
  unfold mpR
  rw [h]
  simp
theorem mpR_dead {b : Bool} {k : Int} {lm : List Opc} {r : Rec} (h : r.dead = true) : lv (mpR b k lm r) = [] := by
  refine lv_none fun x hx => ?_
  unfold mpR at hx
  obtain ⟨y, -, rfl⟩ := List.mem_map.1 hx
  rw [if_pos h]
  rfl
theorem lv_mpL {b : Bool} {k : Int} {lm : List Opc} {S n : Nat} {l : List Pr} (h : l.length ≤ n * S) : lv (mpL b k lm ((List.range n).flatMap (inp S l))) = lv (org b k lm l) := by
  rw [inp_all]
  obtain ⟨d, hd⟩ : ∃ d, n * S = l.length + d := ⟨n * S - l.length, by omega⟩
  rw [hd, List.range_add, List.map_append]
  unfold mpL org
  rw [List.flatMap_append, lv_app, lv_flatMap, lv_flatMap, lv_flatMap, List.flatMap_map, List.flatMap_map]
  have e2 : ((List.range d).map (l.length + ·)).flatMap (fun i => lv (mpR b k lm (elI l i))) = [] := by
    rw [List.flatMap_eq_nil_iff]
    intro i hi
    obtain ⟨j, -, rfl⟩ := List.mem_map.1 hi
    refine mpR_dead ?_
    unfold elI
    rw [if_neg (by omega)]
    rfl
  rw [e2, List.append_nil]
  have : ∀ (z : List Nat), (∀ i ∈ z, i < l.length) → z.flatMap (fun i => lv (mpR b k lm (elI l i))) = z.flatMap (fun i => lv (mapC b k lm (Int64.ofNat i) (l.getD i default).1 (l.getD i default).2)) := fun z => by
    induction z with
    | nil => intro _; rfl
    | cons i z ih =>
      intro hz
      rw [List.flatMap_cons, List.flatMap_cons, ih (fun j hj => hz j (List.mem_cons_of_mem _ hj))]
      congr 1
      have hi := hz i List.mem_cons_self
      have e : elI l i = ⟨false, (l.getD i default).1, (l.getD i default).2, Int64.ofNat i⟩ := by unfold elI; rw [if_pos hi]
      rw [mpR_live (by rw [e]), e]
  exact this _ fun i hi => List.mem_range.1 hi
theorem runM_seq {k : Int} {q : Int64} (hq : 0 ≤ q.toInt ∧ q.toInt ≤ 1000) (hk : k ≤ 4) : ∀ (l : List Opc) (m : Mach), (∀ o ∈ l, opOk k o = true) → (∀ j, (m.s.getD j deadR).dead = false → (m.s.getD j deadR).seq.toInt = q.toInt + (j : Int)) →
    ∀ j, ((runM q m l).s.getD j deadR).dead = false → ((runM q m l).s.getD j deadR).seq.toInt = q.toInt + (j : Int)
  | [], m, _, h => h
  | o :: l, m, ho, h => by
    refine runM_seq hq hk l (stepM q m o) (fun x hx => ho x (List.mem_cons_of_mem _ hx)) fun j hj => ?_
    have hop := ho o List.mem_cons_self
    unfold stepM at hj ⊢
    split
    · rename_i h12
      rw [if_pos h12] at hj
      have hs := op_slot hop h12
      simp only at hj ⊢
      rw [List.getD_eq_getElem?_getD, List.getElem?_set] at hj ⊢
      by_cases e : o.o5.toInt.toNat = j
      · rw [if_pos e] at hj ⊢
        by_cases hl : o.o5.toInt.toNat < m.s.length
        · rw [if_pos hl] at hj ⊢
          rw [Option.getD_some] at hj ⊢
          unfold emitR at hj ⊢
          split at hj
          · cases hj
          · rename_i hc
            rw [if_neg hc]
            show (q + o.o5).toInt = _
            rw [← i_add, wI rfl (by omega) (by omega)]
            omega
        · rw [if_neg hl] at hj; cases hj
      · rw [if_neg e] at hj ⊢
        rw [← List.getD_eq_getElem?_getD] at hj ⊢
        exact h j hj
    · rename_i h12
      rw [if_neg h12] at hj
      exact h j hj
theorem mapC_seq {k : Int} {a b c : List Opc} (h : chkB k a b c = true) {i : Nat} (hi : i ≤ 100) (u v : Int64) :
    (lv (mapC (chkB k a b c) k a (Int64.ofNat i) u v)).Pairwise (fun x y => x.seq.toInt < y.seq.toInt) ∧ ∀ x ∈ lv (mapC (chkB k a b c) k a (Int64.ofNat i) u v), (i : Int) * k ≤ x.seq.toInt ∧ x.seq.toInt < (i : Int) * k + k := by
  obtain ⟨k1, k4, hp, -, -⟩ := chk_bd h
  have hik : (0 : Int) ≤ (i : Int) * k ∧ (i : Int) * k ≤ 400 := by
    have h1 : (i : Int) * k ≤ 100 * 4 := Int.mul_le_mul (by omega) k4 (by omega) (by omega)
    exact ⟨Int.mul_nonneg (by omega) (by omega), h1⟩
  have hq : (Int64.ofNat i * Int64.ofInt k).toInt = (i : Int) * k := by
    rw [← i_mul, Int64.toInt_ofInt_of_le (by omega) (by omega), Int64.toInt_ofNat_of_lt (by omega)]
    exact wI rfl (by omega) (by omega)
  unfold mapC
  rw [if_pos h]
  unfold mapP
  have hall : ∀ o ∈ a, opOk k o = true := fun o ho => by
    unfold partOk at hp
    rw [Bool.and_eq_true, List.all_eq_true] at hp
    exact hp.2 o ho
  have hs := runM_seq (q := Int64.ofNat i * Int64.ofInt k) (by rw [hq]; omega) k4 a ⟨zreg u v (Int64.ofNat i), List.replicate k.toNat deadR⟩ hall (fun j hj => by
    simp only at hj
    rw [List.getD_eq_getElem?_getD, List.getElem?_replicate] at hj
    split at hj <;> cases hj)
  have hl := runM_s (Int64.ofNat i * Int64.ofInt k) a ⟨zreg u v (Int64.ofNat i), List.replicate k.toNat deadR⟩
  rw [List.length_replicate] at hl
  generalize (runM (Int64.ofNat i * Int64.ofInt k) ⟨zreg u v (Int64.ofNat i), List.replicate k.toNat deadR⟩ a).s = s at *
  have hg : ∀ j (hj : j < s.length), s[j].dead = false → s[j].seq.toInt = (i : Int) * k + j := fun j hj hd => by
    have := hs j
    rw [List.getD_eq_getElem?_getD, List.getElem?_eq_getElem hj, Option.getD_some, hq] at this
    exact this hd
  refine ⟨?_, fun x hx => ?_⟩
  · unfold lv
    rw [List.pairwise_filter, List.pairwise_iff_getElem]
    intro p q hp hq hpq h1 h2
    rw [hg p hp (by simpa using h1), hg q hq (by simpa using h2)]
    omega
  · unfold lv at hx
    rw [List.mem_filter] at hx
    obtain ⟨j, hj, rfl⟩ := List.getElem_of_mem hx.1
    rw [hg j hj (by simpa using hx.2)]
    omega
theorem org_seq {k : Int} {a b c : List Opc} (h : chkB k a b c = true) {l : List Pr} : ∀ n, n ≤ 100 →
    (lv ((List.range n).flatMap fun i => mapC (chkB k a b c) k a (Int64.ofNat i) (l.getD i default).1 (l.getD i default).2)).Pairwise (fun x y => x.seq.toInt < y.seq.toInt) ∧
    ∀ x ∈ lv ((List.range n).flatMap fun i => mapC (chkB k a b c) k a (Int64.ofNat i) (l.getD i default).1 (l.getD i default).2), x.seq.toInt < (n : Int) * k
  | 0, _ => ⟨List.Pairwise.nil, fun x hx => by cases hx⟩
  | n + 1, hn => by
    obtain ⟨h1, h2⟩ := org_seq h (l := l) n (by omega)
    obtain ⟨h3, h4⟩ := mapC_seq h (i := n) (by omega) (l.getD n default).1 (l.getD n default).2
    have hk := (chk_bd h).1
    rw [List.range_succ, List.flatMap_append, lv_app]
    simp only [List.flatMap_cons, List.flatMap_nil, List.append_nil]
    have e : ((n + 1 : Nat) : Int) * k = (n : Int) * k + k := by rw [Int.natCast_add, Int.add_mul]; simp
    refine ⟨List.pairwise_append.2 ⟨h1, h3, fun x hx y hy => ?_⟩, fun x hx => ?_⟩
    · have := h2 x hx; have := h4 y hy; omega
    · rw [e]
      rcases List.mem_append.1 hx with hx | hx
      · have := h2 x hx; omega
      · exact (h4 x hx).2
theorem valK_sorted {S T : List Rec} (hs : Srt true S) (hp : (lv S).Perm (lv T)) (ht : (lv T).Pairwise fun x y => x.seq.toInt < y.seq.toInt) (k : Int64) : valK k S = valK k T := by
  rw [← valK_lv k S, ← valK_lv k T]
  unfold valK
  congr 1
  have hT : ((lv T).filter fun r => decide (r.dead = false ∧ r.key = k)).Pairwise fun x y => x.seq.toInt < y.seq.toInt := List.Pairwise.sublist List.filter_sublist ht
  refine (hp.filter _).eq_of_pairwise (le := fun x y => x.seq.toInt ≤ y.seq.toInt) (fun x y hx hy h1 h2 => ?_) ?_ (hT.imp fun {x y} h => by omega)
  · have hx' := ((hp.filter fun r => decide (r.dead = false ∧ r.key = k)).mem_iff.1 hx)
    obtain ⟨i, hi, rfl⟩ := List.getElem_of_mem hx'
    obtain ⟨j, hj, rfl⟩ := List.getElem_of_mem hy
    rcases Nat.lt_trichotomy i j with h | h | h
    · have := List.pairwise_iff_getElem.1 hT i j hi hj h; omega
    · subst h; rfl
    · have := List.pairwise_iff_getElem.1 hT j i hj hi h; omega
  · have h1 : (lv S).Pairwise fun a b => rk true a ≤ rk true b := List.Pairwise.sublist List.filter_sublist hs
    rw [List.pairwise_filter]
    refine h1.imp fun {x y} hxy hx hy => ?_
    have hx := of_decide_eq_true hx
    have hy := of_decide_eq_true hy
    unfold rk at hxy
    rw [hx.1, hy.1, hx.2, hy.2] at hxy
    simp at hxy
    exact hxy
theorem pipe_org {k : Int} {a b c : List Opc} (h : chkB k a b c = true) {K S n N : Nat} {l : List Pr} (hK : K ≤ 16) (hN : n * k.toNat < 2 ^ K) (hS : 0 < S) (hl : l.length ≤ n * S) (hl2 : l.length ≤ 100) :
    OutI (doneC (chkB k a b c) b) (doneC (chkB k a b c) c) (org (chkB k a b c) k a l) (alv (bnet false K (st2 (chkB k a b c) b c K (mpD (chkB k a b c) k a S k.toNat l n (2 ^ K))) (rnd ((2 ^ K : Nat) : Int))).flatten) := by
  have hM := mpD_inv (S := S) (l := l) h (n := n) (N := 2 ^ K) (by omega)
  have hd : deadR ∈ (mpD (chkB k a b c) k a S k.toNat l n (2 ^ K)).flatten := by
    rw [hM.2.mem_iff, List.mem_append]
    refine .inr (List.mem_replicate.2 ⟨?_, rfl⟩)
    exact Nat.mul_ne_zero (by omega) (by omega)
  have ho := pipe_out h (f := b) (g := c) hK hM.1 hd
  have I := pipeI h (f := b) (g := c) hK hM.1
  have e : ∀ q, fldK (doneC (chkB k a b c) b) q (bnet true K (mpD (chkB k a b c) k a S k.toNat l n (2 ^ K)) (rnd ((2 ^ K : Nat) : Int))).flatten = fldK (doneC (chkB k a b c) b) q (org (chkB k a b c) k a l) := fun q => by
    unfold fldK
    rw [valK_sorted (T := org (chkB k a b c) k a l) I.srt1 ?_ (org_seq h l.length hl2).1 q]
    refine (lv_perm (I.prm1.trans hM.2)).trans ?_
    rw [lv_app, lv_none (l := List.replicate _ deadR) (fun r hr => by rw [(List.mem_replicate.1 hr).2]; rfl), List.append_nil, lv_mpL hl]
  refine ⟨ho.asc, fun p hp => ?_, fun q hq => ho.all q (by rw [e]; exact hq)⟩
  obtain ⟨v, h1, h2⟩ := ho.val p hp
  exact ⟨v, by rw [← e]; exact h1, h2⟩
theorem wpS_sh {P : Program} {w0 : World} {D : List Nat} {n : Nat} {r : Option Nat} {c : Code} {Q : Exit → List Nat → Fr → List Res → Prop} {ds : List Nat} {σ : Fr} {L L' : List Res} (he : ∀ w, SH w0 D L w → SH w0 D L' w) (h : wpS P w0 D n r c Q ds σ L') : wpS P w0 D n r c Q ds σ L :=
  fun a w hf hs => h a w hf (he w hs)
end Go.Proofs.Ytldkjjnjdjfipaa
namespace Go.Proofs.Ytldkjjnjdjfipaa
open Go Go.RowKit
set_option linter.unusedVariables false
set_option linter.unusedSimpArgs false
section
variable {w0 : World} {D : List Nat} {L M N : List Res} {hd hd2 : List SlH} {bs bs2 : List (List Rec)}
theorem getD_app2 {α : Type} {l z : List α} {d : α} {k : Nat} : (l ++ z).getD k d = if k < l.length then l.getD k d else z.getD (k - l.length) d := by
  rw [List.getD_eq_getElem?_getD]
  by_cases h : k < l.length
  · rw [if_pos h, List.getElem?_append_left h, List.getD_eq_getElem?_getD]
  · rw [if_neg h, List.getElem?_append_right (by omega), List.getD_eq_getElem?_getD]
theorem fam_app (hp : Pick L (fam hd2 bs2) M) (hq : Pick M (fam hd bs) N) (hl : hd.length = bs.length) : ∀ w, SH w0 D L w → SH w0 D (fam (hd ++ hd2) (bs ++ bs2) :: N) w := fun w hs => by
  have h1 := hs.pick hp
  have h2 : SH w0 D (fam hd bs :: fam hd2 bs2 :: N) w := (h1.perm ((hq.perm.cons _).trans (List.Perm.swap _ _ _)))
  have k1 := h2.ok _ List.mem_cons_self
  have k2 := h2.ok _ (List.mem_cons_of_mem _ List.mem_cons_self)
  have hget : ∀ k, k < (bs ++ bs2).length → (k < bs.length ∧ (bs ++ bs2).getD k [] = bs.getD k [] ∧ (hd ++ hd2).getD k default = hd.getD k default) ∨ (∃ j, j < bs2.length ∧ (bs ++ bs2).getD k [] = bs2.getD j [] ∧ (hd ++ hd2).getD k default = hd2.getD j default) := by
    intro k hk
    rw [List.length_append] at hk
    rw [getD_app2, getD_app2, hl]
    by_cases h : k < bs.length
    · exact .inl ⟨h, by rw [if_pos h], by rw [if_pos h]⟩
    · exact .inr ⟨k - bs.length, by omega, by rw [if_neg h], by rw [if_neg h]⟩
  refine SH.join h2 ?_ ?_
  · intro b hb
    obtain ⟨k, hk, h3, h4⟩ := mem_famF.1 hb
    rcases hget k hk with ⟨e0, e1, e2⟩ | ⟨j, e0, e1, e2⟩
    · rw [e1] at h3; rw [e2] at h4
      exact .inl (mem_famF.2 ⟨k, e0, h3, h4⟩)
    · rw [e1] at h3; rw [e2] at h4
      exact .inr (mem_famF.2 ⟨j, e0, h3, h4⟩)
  · intro k hk
    rcases hget k hk with ⟨e0, e1, e2⟩ | ⟨j, e0, e1, e2⟩
    · rw [e1, e2]; exact k1 k e0
    · rw [e1, e2]; exact k2 j e0
theorem fam_set1 (h0 : SlH) {c n i : Nat} {d : List Rec} (hp : Pick L (osl h0.a c n 4 23 (d.flatMap recV)) M) (hq : Pick M (fam hd bs) N) (hl : hd.length = bs.length) (hi : i < bs.length) : ∀ w, SH w0 D L w → SH w0 D (fam (hd.set i h0) (bs.set i d) :: N) w := fun w hs => by
  have g1 := hs.pick hp
  have g2 : SH w0 D (fam hd bs :: osl h0.a c n 4 23 (d.flatMap recV) :: N) w := (g1.perm ((hq.perm.cons _).trans (List.Perm.swap _ _ _)))
  have k1 := g2.ok _ List.mem_cons_self
  have k2 := g2.ok _ (List.mem_cons_of_mem _ List.mem_cons_self)
  have hget : ∀ k, k < (bs.set i d).length → (k < bs.length ∧ (bs.set i d).getD k [] = bs.getD k [] ∧ (hd.set i h0).getD k default = hd.getD k default) ∨ ((bs.set i d).getD k [] = d ∧ (hd.set i h0).getD k default = h0) := by
    intro k hk
    rw [List.length_set] at hk
    rw [getD_set hi, getD_set (by omega)]
    by_cases e : k = i
    · exact .inr ⟨by rw [if_pos e], by rw [if_pos e]⟩
    · exact .inl ⟨hk, by rw [if_neg e], by rw [if_neg e]⟩
  refine SH.join g2 ?_ ?_
  · intro b hb
    obtain ⟨k, hk, h3, h4⟩ := mem_famF.1 hb
    rcases hget k hk with ⟨e0, e1, e2⟩ | ⟨e1, e2⟩
    · rw [e1] at h3; rw [e2] at h4
      exact .inl (mem_famF.2 ⟨k, e0, h3, h4⟩)
    · rw [e1] at h3; rw [e2] at h4
      subst h4
      exact .inr (osl_blk k2 (by rw [flR_len]; omega))
  · intro k hk
    rcases hget k hk with ⟨e0, e1, e2⟩ | ⟨e1, e2⟩
    · rw [e1, e2]; exact k1 k e0
    · rw [e1, e2]; exact osl_rds k2
def tA (u : Bool) (x : Option Addr) (c z : Nat) : Option Addr := if u = true then x else subA x c z 4
def tC (u : Bool) (c z : Nat) : Nat := if u = true then z else c - z
def tD (u : Bool) (T : List Rec) (z : Nat) : List Rec := if u = true then T.take z else T.drop z
theorem fam_trn (u : Bool) {x : Option Addr} {c n : Nat} {T : List Rec} (hp : Pick L (osl x c n 4 23 (T.flatMap recV)) M) (hq : Pick M (fam hd bs) N) (hl : hd.length = bs.length) (hc : T.length ≤ c) {i j z n1 n2 : Nat} (hi : i < bs.length) (hj : j < bs.length) :
    ∀ w, SH w0 D L w → SH w0 D (fam ((hd.set i ⟨tA u x c z, n1, tC u c z⟩).set j ⟨tA (!u) x c z, n2, tC (!u) c z⟩) ((bs.set i (tD u T z)).set j (tD (!u) T z)) :: N) w := by
  cases u
  · exact fam_dn hp hq hl hc hi hj
  · exact fam_up hp hq hl hc hi hj
end
end Go.Proofs.Ytldkjjnjdjfipaa
namespace Go.Proofs.Ytldkjjnjdjfipaa
open Go Go.RowKit
set_option linter.unusedVariables false
set_option linter.unusedSimpArgs false
structure JP (R m S : Nat) (W : Int) (nb K : Nat) : Prop where
  ok : ok ⟨R, m, S, W⟩ = true
  b : bk ⟨R, m, S, W⟩ = (nb : Int)
  s : sl ⟨R, m, S, W⟩ = 2 ^ K
  K5 : K ≤ 5
  R1 : 1 ≤ R ∧ R ≤ 64
  m1 : 1 ≤ m ∧ m ≤ 4
  S1 : 1 ≤ S ∧ S ≤ 8
  nm : nb * m < 2 ^ K
  rs : R ≤ nb * S
  rs2 : (nb - 1) * S < R
  n1 : 1 ≤ nb ∧ nb ≤ 64
theorem jp_of {R m S : Nat} {W : Int} (h : ok ⟨R, m, S, W⟩ = true) : ∃ nb K, JP R m S W nb K := by
  have hb := ok_bd h
  have hc := ok_cdv h
  simp only at hb hc
  refine ⟨(cdv R S).toNat, blen ((m : Int) * cdv R S).toNat, h, ?_, ?_, ?_, by omega, by omega, by omega, ?_, ?_, ?_, by omega⟩
  · rw [bk_yes h]; simp only; omega
  · rw [sl_yes h]
    simp only
    have hp : 1 ≤ (m : Int) * cdv R S := by have := nb_bd (a := (m : Int)) (c := cdv R S) (by omega) (by omega) (by omega) (by omega); omega
    unfold pad clampP
    congr 2
    omega
  · exact blen_le (by omega)
  · have hlt := lt_blen ((m : Int) * cdv R S).toNat
    have e : (cdv (R : Int) S).toNat * m = ((m : Int) * cdv R S).toNat := by
      have : cdv (R : Int) S = ((cdv (R : Int) S).toNat : Int) := by omega
      generalize (cdv (R : Int) S).toNat = c at *
      rw [this, ← Int.natCast_mul, Int.toNat_natCast, Nat.mul_comm]
    rw [e]
    exact hlt
  all_goals
    have e : cdv (R : Int) S = (((R - 1) / S + 1 : Nat) : Int) := by
      unfold cdv
      rw [show (R : Int) - 1 = ((R - 1 : Nat) : Int) by omega]
      norm_cast
    rw [e, Int.toNat_natCast]
    have h1 := Nat.div_add_mod (R - 1) S
    have h2 := Nat.mod_lt (R - 1) (show 0 < S by omega)
    rw [Nat.mul_comm] at h1
    first
      | (rw [Nat.succ_mul]; omega)
      | (rw [Nat.add_sub_cancel]; omega)
section
variable {b : Bool} {k : Int} {lm : List Opc} {l : List Rec}
theorem mapC_lenm {k : Int} {a b c : List Opc} (h : chkB k a b c = true) (n u v : Int64) : (mapC (chkB k a b c) k a n u v).length = k.toNat := by
  unfold mapC mapP
  rw [if_pos h, runM_s, List.length_replicate]
theorem mp_step {xs ys : List Rec} {r : Rec} {j : Nat} (h : ys = xs ++ (mpR b k lm r).take j) (hj : j < (mapC b k lm r.seq r.key r.value).length) : ys ++ [pickR (b64 r.dead) deadR ((mapC b k lm r.seq r.key r.value).getD j default)] = xs ++ (mpR b k lm r).take (j + 1) := by
  have e : (mpR b k lm r)[j]'(by unfold mpR; rw [List.length_map]; exact hj) = pickR (b64 r.dead) deadR ((mapC b k lm r.seq r.key r.value).getD j default) := by
    unfold mpR pickR
    rw [List.getElem_map, List.getD_eq_getElem?_getD, List.getElem?_eq_getElem hj, Option.getD_some]
    cases r.dead <;> simp [b64]
  rw [List.take_succ_eq_append_getElem (by unfold mpR; rw [List.length_map]; exact hj), e, h, List.append_assoc]
theorem mp_all {xs ys : List Rec} {k' j : Nat} (h : ys = xs ++ (mpR b k lm (l.getD k' default)).take j) (hj : (mapC b k lm (l.getD k' default).seq (l.getD k' default).key (l.getD k' default).value).length ≤ j) (hx : xs = mpL b k lm (l.take k')) (hk : k' < l.length) : ys = mpL b k lm (l.take (k' + 1)) := by
  rw [List.take_of_length_le (by unfold mpR; rw [List.length_map]; exact hj)] at h
  rw [h, hx, List.take_succ_eq_append_getElem hk]
  unfold mpL
  rw [List.flatMap_append, List.getD_eq_getElem?_getD, List.getElem?_eq_getElem hk]
  simp
theorem cut_next {S q : Nat} {xs : List Rec} {bs : List (List Rec)} (h : bs = cutS S q xs) : bs ++ [msort true ((xs.drop (S * q)).take S)] = cutS S (q + 1) xs := by
  subst h
  simp [cutS, List.range_succ]
end
theorem hn_app2 {hd h2 : List SlH} {N m z : Nat} (hl : hd.length = N) (h : ∀ k, k < N → (hd.getD k default).n = z) (h2' : ∀ k, k < m → (h2.getD k default).n = z) : ∀ k, k < N + m → ((hd ++ h2).getD k default).n = z := by
  intro k hk
  rw [getD_app2]
  split
  · exact h k (by omega)
  · exact h2' _ (by omega)
theorem hn_set1 {hd : List SlH} {N z i : Nat} {h1 : SlH} (hl : hd.length = N) (hi : i < N) (h : ∀ k, k < N → (hd.getD k default).n = z) (e1 : h1.n = z) : ∀ k, k < N → ((hd.set i h1).getD k default).n = z := by
  intro k hk
  rw [getD_set (by omega)]
  split
  · exact e1
  · exact h k hk
theorem bst_trn {sq : Bool} {K r i a z : Nat} {X Y : List (List Rec)} (hY : Y = bcmp sq K r X i) (hi : i < (frs ((2 ^ K : Nat) : Int) (r : Int)).length) (p : PairK K r i a) (hz : (Y.getD a []).length = z) {u : Bool} (hu : up ((2 ^ K : Nat) : Int) (r : Int) (a : Int) = u) :
    (Y.set a (tD u (mgd sq (Y.getD a []) (Y.getD (a + 2 ^ ((stK K r).2 - 1)) [])) z)).set (a + 2 ^ ((stK K r).2 - 1)) (tD (!u) (mgd sq (Y.getD a []) (Y.getD (a + 2 ^ ((stK K r).2 - 1)) [])) z) = bcmp sq K r X (i + 1) := by
  cases u
  · exact bst_dn hY hi p hz hu
  · exact bst_up hY hi p hz hu
theorem bnet_next {sq : Bool} {K r : Nat} {B : List (List Rec)} (hK : K ≤ 16) (hr : r < rnd ((2 ^ K : Nat) : Int)) : bcmp sq K r (bnet sq K B r) (frs ((2 ^ K : Nat) : Int) (r : Int)).length = bnet sq K B (r + 1) := bcmp_all hK hr (Nat.le_refl _)
end Go.Proofs.Ytldkjjnjdjfipaa
namespace Go.Proofs.Ytldkjjnjdjfipaa
open Go Go.RowKit
set_option linter.unusedVariables false
set_option linter.unusedSimpArgs false
theorem flat_len : ∀ {B : List (List Rec)} {S : Nat}, (∀ x ∈ B, x.length = S) → B.flatten.length = B.length * S
  | [], S, _ => by simp
  | x :: B, S, h => by
    rw [List.flatten_cons, List.length_append, flat_len (fun y hy => h y (List.mem_cons_of_mem _ hy)), h x List.mem_cons_self, List.length_cons, Nat.succ_mul]
    omega
section
variable {b : Bool} {f g : List Opc} {K S : Nat} {M : List (List Rec)}
theorem stg_lo {t : Nat} (ht : t < 2 + rnd ((2 ^ K : Nat) : Int)) {q : Nat} (hq : q = min (t - 1) (rnd ((2 ^ K : Nat) : Int))) : bnet true K M q = stg3 b f g K M t := by
  unfold stg3 st1
  rw [if_pos ht, hq]
theorem stg_hi {t : Nat} (ht : ¬ t < 2 + rnd ((2 ^ K : Nat) : Int)) {q : Nat} (hq : q = t - 2 - rnd ((2 ^ K : Nat) : Int)) : bnet false K (st2 b f g K M) q = stg3 b f g K M t := by
  unfold stg3
  rw [if_neg ht, hq]
theorem stg_len (h : PipeI b f g K S M) {t : Nat} (h2 : t ≤ 2 + 2 * rnd ((2 ^ K : Nat) : Int)) : (stg3 b f g K M t).length = 2 ^ K ∧ ∀ x ∈ stg3 b f g K M t, x.length = S := by
  by_cases ht : t < 2 + rnd ((2 ^ K : Nat) : Int)
  · rw [← stg_lo ht rfl]
    have := h.inv1 (min (t - 1) (rnd ((2 ^ K : Nat) : Int))) (by omega)
    exact ⟨this.1, fun x hx => (this.2 x hx).1⟩
  · rw [← stg_hi ht rfl]
    have := h.inv3 (t - 2 - rnd ((2 ^ K : Nat) : Int)) (by omega)
    exact ⟨this.1, fun x hx => (this.2 x hx).1⟩
theorem stg_flat (h : PipeI b f g K S M) {t : Nat} (h2 : t ≤ 2 + 2 * rnd ((2 ^ K : Nat) : Int)) : (stg3 b f g K M t).flatten.length = 2 ^ K * S := by
  have := stg_len h h2
  rw [flat_len this.2, this.1]
theorem getD_len {X : List (List Rec)} {N a : Nat} (h : X.length = N ∧ ∀ x ∈ X, x.length = S) (ha : a < N) : (X.getD a []).length = S := h.2 _ (getD_mem (by omega))
def runD (b : Bool) (f g : List Opc) (K : Nat) (M : List (List Rec)) : List Pr := alv (stg3 b f g K M (2 + 2 * rnd ((2 ^ K : Nat) : Int))).flatten
end
theorem alv_len (l : List Rec) : (alv l).length ≤ l.length := by
  unfold alv
  rw [List.length_map]
  exact List.length_filter_le _ _
section
variable {R m S : Nat} {W : Int} {nb K : Nat} {l1 l2 l3 : List Opc} {li : List Pr}
theorem jpM (hj : JP R m S W nb K) (hck : chkB ((m : Nat) : Int) l1 l2 l3 = true) : PipeI (chkB ((m : Nat) : Int) l1 l2 l3) l2 l3 K S (mpD (chkB ((m : Nat) : Int) l1 l2 l3) ((m : Nat) : Int) l1 S m li nb (2 ^ K)) := by
  have hK := hj.K5
  have hnm := hj.nm
  have h := (mpD_inv (k := ((m : Nat) : Int)) (S := S) (l := li) hck (n := nb) (N := 2 ^ K) (by rw [Int.toNat_natCast]; omega)).1
  rw [Int.toNat_natCast] at h
  exact pipeI hck (by omega) h
theorem jp_len (hj : JP R m S W nb K) (hck : chkB ((m : Nat) : Int) l1 l2 l3 = true) : (runD (chkB ((m : Nat) : Int) l1 l2 l3) l2 l3 K (mpD (chkB ((m : Nat) : Int) l1 l2 l3) ((m : Nat) : Int) l1 S m li nb (2 ^ K))).length ≤ 1000 := by
  have h := stg_flat (jpM (li := li) hj hck) (t := 2 + 2 * rnd ((2 ^ K : Nat) : Int)) (by omega)
  have h2 : 2 ^ K ≤ 32 := Nat.pow_le_pow_right (n := 2) (by decide) hj.K5
  have h3 := Nat.mul_le_mul h2 hj.S1.2
  have h4 := alv_len (stg3 (chkB ((m : Nat) : Int) l1 l2 l3) l2 l3 K (mpD (chkB ((m : Nat) : Int) l1 l2 l3) ((m : Nat) : Int) l1 S m li nb (2 ^ K)) (2 + 2 * rnd ((2 ^ K : Nat) : Int))).flatten
  unfold runD
  omega
theorem jp_out (hj : JP R m S W nb K) (hck : chkB ((m : Nat) : Int) l1 l2 l3 = true) (hl : li.length = R) :
    OutI (doneC (chkB ((m : Nat) : Int) l1 l2 l3) l2) (doneC (chkB ((m : Nat) : Int) l1 l2 l3) l3) (org (chkB ((m : Nat) : Int) l1 l2 l3) ((m : Nat) : Int) l1 li) (runD (chkB ((m : Nat) : Int) l1 l2 l3) l2 l3 K (mpD (chkB ((m : Nat) : Int) l1 l2 l3) ((m : Nat) : Int) l1 S m li nb (2 ^ K))) := by
  have hK := hj.K5
  have hnm := hj.nm
  have hS := hj.S1
  have hrs := hj.rs
  have hR := hj.R1
  have h := pipe_org (k := ((m : Nat) : Int)) hck (K := K) (S := S) (n := nb) (N := 2 ^ K) (l := li) (by omega) (by rw [Int.toNat_natCast]; omega) (by omega) (by omega) (by omega)
  rw [Int.toNat_natCast] at h
  unfold runD
  rw [← stg_hi (q := rnd ((2 ^ K : Nat) : Int)) (by omega) (by omega)]
  exact h
end
end Go.Proofs.Ytldkjjnjdjfipaa
namespace Go.Proofs.Ytldkjjnjdjfipaa
open Go Go.RowKit
set_option linter.unusedVariables false
set_option linter.unusedSimpArgs false
def smapL (m : Nat) : List Opc := Opc.mk 1 3 0 0 0 1 :: (List.range m).map fun i => Opc.mk 12 0 0 1 3 (Int64.ofNat i)
abbrev sfoldL : List Opc := [Opc.mk 2 0 0 1 0 0]
theorem smap_next (i : Nat) : smapL i ++ [Opc.mk 12 0 0 1 3 (Int64.ofNat i)] = smapL (i + 1) := by simp [smapL, List.range_succ]
theorem smap_len (i : Nat) : (smapL i).length = i + 1 := by simp [smapL]
theorem sums_ok {m : Nat} (h1 : 1 ≤ m) (h2 : m ≤ 2) : chkB ((m : Nat) : Int) (smapL m) sfoldL [] = true := by
  have : m = 1 ∨ m = 2 := by omega
  rcases this with rfl | rfl <;> decide +kernel
@[reducible] def pj (pre l : List Value) : List Value := pre ++ l
theorem pre_get {pre l : List Value} {v : Value} (j : Nat) (h : pre.length = 33) (hj : l[j]? = some v) : (pj pre l)[33 + j]? = some v := by
  unfold pj
  rw [List.getElem?_append_right (by omega), h, Nat.add_sub_cancel_left]
  exact hj
theorem pre_getN {pre l vs : List Value} (j : Nat) (h : pre.length = 33) (hj : (l.drop j).take vs.length = vs) : ((pj pre l).drop (33 + j)).take vs.length = vs := by
  unfold pj
  rw [List.drop_append, List.drop_of_length_le (by omega), List.nil_append, h, Nat.add_sub_cancel_left]
  exact hj
theorem pre_fit {pre l : List Value} {n : Nat} (j : Nat) (h : pre.length = 33) (hj : j + n ≤ l.length) : 33 + j + n ≤ (pj pre l).length := by
  unfold pj
  rw [List.length_append]
  omega
theorem pre_set {pre l l' vs : List Value} (j : Nat) (h : pre.length = 33) (hj : l.take j ++ vs ++ l.drop (j + vs.length) = l') : (pj pre l).take (33 + j) ++ vs ++ (pj pre l).drop (33 + j + vs.length) = pj pre l' := by
  unfold pj
  subst hj
  rw [List.take_append, List.take_of_length_le (by omega), List.drop_append, List.drop_of_length_le (by omega), List.nil_append, h, Nat.add_sub_cancel_left, Nat.add_assoc, Nat.add_sub_cancel_left]
  simp
theorem pre_one {pre l : List Value} (h : pre.all Value.oneCell' = true) (hj : l.all Value.oneCell' = true) : (pj pre l).all Value.oneCell' = true := by unfold pj; rw [List.all_append, h, hj]; rfl
theorem pre_len {pre l : List Value} (h : pre.length = 33) (hj : l.length = 9) : (pj pre l).length = 42 := by unfold pj; rw [List.length_append]; omega
@[reducible] def zJob : List Value := [.int .u8 0, .int .u8 0, .int .u8 0, .int .u8 0, .int .u8 0, .int .u8 0, .int .u8 0, .int .u8 0, .int .u8 0, .int .u8 0, .int .u8 0, .int .u8 0, .int .u8 0, .int .u8 0, .int .u8 0, .int .u8 0, .int .u8 0, .int .u8 0, .int .u8 0, .int .u8 0, .int .u8 0, .int .u8 0, .int .u8 0, .int .u8 0, .int .u8 0, .int .u8 0, .int .u8 0, .int .u8 0, .int .u8 0, .int .u8 0, .int .u8 0, .int .u8 0, .int .u64 0, .int .i64 0, .slice none 0 0, .slice none 0 0, .slice none 0 0, .int .i64 0, .int .i64 0, .int .i64 0, .int .i64 0, .slice none 0 0]
theorem right_ge {i m S : Nat} (h : 7 < m * ((i + S - 1) / S)) (hm : m ≤ 2) (hS : 1 ≤ S) (hi : 1 ≤ i) : 2 ≤ i := by
  rcases Nat.lt_or_ge i 2 with h1 | h1
  · obtain rfl : i = 1 := by omega
    rw [show 1 + S - 1 = S by omega, Nat.div_self (by omega)] at h
    omega
  · exact h1
theorem right_le {i m S : Nat} (hm : m ≤ 2) (hS : 1 ≤ S) (hS3 : S ≤ 3) (hi : i ≤ 6) : m * ((i + S - 1) / S) ≤ 2 * 8 := Nat.mul_le_mul hm (Nat.le_trans (Nat.div_le_self _ _) (by omega))
theorem right_ok {i m S W : Nat} (h : ¬ 7 < m * ((i + S - 1) / S)) (hm1 : 1 ≤ m) (hm : m ≤ 2) (hS : 1 ≤ S) (hS3 : S ≤ 3) (hi : 1 ≤ i) (hi6 : i ≤ 6) (hW1 : 1 ≤ W) (hW3 : W ≤ 3) : ok ⟨i, m, S, W⟩ = true := by
  unfold ok
  refine decide_eq_true ?_
  simp only []
  have e := cdv_up (a := (i : Int)) (b := (S : Int)) (by omega)
  rw [show (i : Int) + S - 1 = ((i + S - 1 : Nat) : Int) by omega] at e
  have e2 : ((((i + S - 1) / S : Nat)) : Int) = cdv i S := by rw [← e]; norm_cast
  rw [← e2]
  have e3 : (m : Int) * (((i + S - 1) / S : Nat) : Int) = ((m * ((i + S - 1) / S) : Nat) : Int) := by norm_cast
  rw [e3]
  omega
end Go.Proofs.Ytldkjjnjdjfipaa
namespace Go.Proofs.Ytldkjjnjdjfipaa
open Go Go.RowKit
set_option linter.unusedVariables false
set_option linter.unusedSimpArgs false
theorem lv_step {xs ys : List Rec} {mc : List Rec} {j : Nat} (h : xs = ys ++ lv (mc.take j)) (hj : j < mc.length) (hd : (mc.getD j default).dead = false) : xs ++ [mc.getD j default] = ys ++ lv (mc.take (j + 1)) := by
  rw [List.getD_eq_getElem?_getD, List.getElem?_eq_getElem hj, Option.getD_some] at hd ⊢
  rw [h, List.take_succ_eq_append_getElem hj, lv_app, List.append_assoc]
  congr 2
  unfold lv
  rw [List.filter_cons, hd]
  rfl
theorem lv_skip {xs ys : List Rec} {mc : List Rec} {j : Nat} (h : xs = ys ++ lv (mc.take j)) (hj : j < mc.length) (hd : (mc.getD j default).dead = true) : xs = ys ++ lv (mc.take (j + 1)) := by
  rw [List.getD_eq_getElem?_getD, List.getElem?_eq_getElem hj, Option.getD_some] at hd
  rw [h, List.take_succ_eq_append_getElem hj, lv_app]
  congr 1
  unfold lv
  rw [List.filter_cons, hd]
  simp
def orT (b : Bool) (k : Int) (lm : List Opc) (l : List Pr) (n : Nat) : List Rec := (List.range n).flatMap fun i => mapC b k lm (Int64.ofNat i) (l.getD i default).1 (l.getD i default).2
theorem orT_next {b : Bool} {k : Int} {lm : List Opc} {l : List Pr} {n j : Nat} {xs ys : List Rec} (h : xs = ys ++ lv ((mapC b k lm (Int64.ofNat n) (l.getD n default).1 (l.getD n default).2).take j)) (hj : (mapC b k lm (Int64.ofNat n) (l.getD n default).1 (l.getD n default).2).length ≤ j) (hy : ys = lv (orT b k lm l n)) : xs = lv (orT b k lm l (n + 1)) := by
  rw [List.take_of_length_le hj] at h
  rw [h, hy]
  unfold orT
  rw [List.range_succ, List.flatMap_append, lv_app]
  simp
theorem lv_len (l : List Rec) : (lv l).length ≤ l.length := List.length_filter_le _ _
theorem orT_len {k : Int} {a b c : List Opc} (h : chkB k a b c = true) {l : List Pr} : ∀ n, (orT (chkB k a b c) k a l n).length ≤ n * 4
  | 0 => by simp [orT]
  | n + 1 => by
    have ih := orT_len h (l := l) n
    have h2 := mapC_len (k := k) (a := a) (b := b) (c := c) (l := a) (nn := Int64.ofNat n) (u := (l.getD n default).1) (v := (l.getD n default).2)
    unfold orT at ih ⊢
    rw [List.range_succ, List.flatMap_append, List.length_append]
    simp only [List.flatMap_cons, List.flatMap_nil, List.append_nil]
    omega
def ltrB (os : List Pr) (k : Int64) : Bool := decide (os.length = 0) || decide ((os.getD (os.length - 1) default).1 < k)
theorem ltr_e {os : List Pr} {k : Int64} (h : os.length = 0) : true = ltrB os k := by unfold ltrB; rw [decide_eq_true h]; rfl
theorem ltr_n {os : List Pr} {k : Int64} (h : ¬ os.length = 0) : decide ((os.getD (os.length - 1) default).1 < k) = ltrB os k := by unfold ltrB; rw [decide_eq_false h]; rfl
theorem ltr_snoc (os : List Pr) (p : Pr) (k : Int64) : ltrB (os ++ [p]) k = decide (p.1 < k) := by
  unfold ltrB
  have : (os ++ [p]).getD ((os ++ [p]).length - 1) default = p := by simp [List.getD_eq_getElem?_getD]
  rw [this, decide_eq_false (by simp)]
  rfl
structure MinI (os : List Pr) (al : List Rec) (i : Nat) (sm : Bool) (ky : Int64) : Prop where
  no : sm = false → ∀ j, j < i → ltrB os (al.getD j default).key = false
  is : sm = true → ∃ j, j < i ∧ ltrB os (al.getD j default).key = true ∧ (al.getD j default).key = ky
  le : sm = true → ∀ j, j < i → ltrB os (al.getD j default).key = true → ky ≤ (al.getD j default).key
theorem min_0 (os : List Pr) (al : List Rec) (ky : Int64) : MinI os al 0 false ky := ⟨fun _ j h => absurd h (by omega), fun h => (by cases h), fun h => (by cases h)⟩
theorem min_skip {os : List Pr} {al : List Rec} {i : Nat} {sm : Bool} {ky : Int64} (h : MinI os al i sm ky) (hl : ltrB os (al.getD i default).key = false) : MinI os al (i + 1) sm ky := by
  refine ⟨fun h2 j hj => ?_, fun h2 => ?_, fun h2 j hj hlj => ?_⟩
  · rcases Nat.lt_or_ge j i with h3 | h3
    · exact h.no h2 j h3
    · obtain rfl : j = i := by omega
      exact hl
  · obtain ⟨j, h3, h4⟩ := h.is h2
    exact ⟨j, by omega, h4⟩
  · rcases Nat.lt_or_ge j i with h3 | h3
    · exact h.le h2 j h3 hlj
    · obtain rfl : j = i := by omega
      rw [hl] at hlj; cases hlj
theorem min_more {os : List Pr} {al : List Rec} {i : Nat} {sm : Bool} {ky : Int64} (h : MinI os al i sm ky) (hs : sm = true) (hk : ¬ (al.getD i default).key < ky) : MinI os al (i + 1) sm ky := by
  refine ⟨fun h2 => (by rw [hs] at h2; cases h2), fun h2 => ?_, fun h2 j hj hlj => ?_⟩
  · obtain ⟨j, h3, h4⟩ := h.is h2
    exact ⟨j, by omega, h4⟩
  · rcases Nat.lt_or_ge j i with h3 | h3
    · exact h.le h2 j h3 hlj
    · obtain rfl : j = i := by omega
      rw [Int64.lt_iff_toInt_lt] at hk
      rw [Int64.le_iff_toInt_le]
      omega
theorem min_new {os : List Pr} {al : List Rec} {i : Nat} {sm : Bool} {ky : Int64} (h : MinI os al i sm ky) (hl : ltrB os (al.getD i default).key = true) (hs : sm = false ∨ (al.getD i default).key < ky) : MinI os al (i + 1) true (al.getD i default).key := by
  refine ⟨fun h2 => (by cases h2), fun _ => ⟨i, by omega, hl, rfl⟩, fun _ j hj hlj => ?_⟩
  rcases Nat.lt_or_ge j i with h3 | h3
  · rcases hs with hs | hs
    · rw [h.no hs j h3] at hlj; cases hlj
    · cases e : sm
      · rw [h.no e j h3] at hlj; cases hlj
      · have := h.le e j h3 hlj
        rw [Int64.lt_iff_toInt_lt] at hs
        rw [Int64.le_iff_toInt_le] at this ⊢
        omega
  · obtain rfl : j = i := by omega
    rw [Int64.le_iff_toInt_le]
    omega
def FoI (F : Int64 → Int64 → Int64) (ky : Int64) (al : List Rec) (i : Nat) (bg : Bool) (v : Int64) : Prop := fldK F ky (al.take i) = if bg = true then some v else none
theorem foI_0 (F : Int64 → Int64 → Int64) (ky : Int64) (al : List Rec) (v : Int64) : FoI F ky al 0 false v := rfl
section
variable {F : Int64 → Int64 → Int64} {ky v : Int64} {al : List Rec} {i : Nat} {bg : Bool}
theorem foI_skip (h : FoI F ky al i bg v) (hi : i < al.length) (hk : ¬ (al.getD i default).key = ky) : FoI F ky al (i + 1) bg v := by
  unfold FoI at *
  rw [List.getD_eq_getElem?_getD, List.getElem?_eq_getElem hi, Option.getD_some] at hk
  rw [List.take_succ_eq_append_getElem hi, fldK_no (fun e => hk e.2)]
  exact h
theorem foI_on (h : FoI F ky al i bg v) (hb : bg = true) (hi : i < al.length) (hk : (al.getD i default).key = ky) (hd : ∀ r ∈ al, r.dead = false) : FoI F ky al (i + 1) bg (F v (al.getD i default).value) := by
  unfold FoI at *
  rw [List.getD_eq_getElem?_getD, List.getElem?_eq_getElem hi, Option.getD_some] at hk ⊢
  rw [hb, if_pos rfl] at h
  rw [List.take_succ_eq_append_getElem hi, fldK_yes ⟨hd _ (List.getElem_mem hi), hk⟩, h, hb, if_pos rfl]
theorem foI_new (h : FoI F ky al i bg v) (hb : bg = false) (hi : i < al.length) (hk : (al.getD i default).key = ky) (hd : ∀ r ∈ al, r.dead = false) : FoI F ky al (i + 1) true (al.getD i default).value := by
  unfold FoI at *
  rw [List.getD_eq_getElem?_getD, List.getElem?_eq_getElem hi, Option.getD_some] at hk ⊢
  rw [hb, if_neg (by decide)] at h
  rw [List.take_succ_eq_append_getElem hi, fldK_yes ⟨hd _ (List.getElem_mem hi), hk⟩, h, if_pos rfl]
end
theorem lv_live (l : List Rec) : ∀ r ∈ lv l, r.dead = false := fun r h => by
  unfold lv at h
  rw [List.mem_filter] at h
  simpa using h.2
structure KeyI (F : Int64 → Int64 → Int64) (al : List Rec) (os : List Pr) : Prop where
  asc : os.Pairwise fun a b => a.1.toInt < b.1.toInt
  val : ∀ p ∈ os, fldK F p.1 al = some p.2
  all : ∀ r ∈ al, r.key ∈ os.map (·.1) ∨ ltrB os r.key = true
theorem key_0 (F : Int64 → Int64 → Int64) (al : List Rec) : KeyI F al [] := ⟨List.Pairwise.nil, fun p h => (by cases h), fun r _ => .inr rfl⟩
theorem ltr_last {os : List Pr} {k : Int64} (ha : os.Pairwise fun a b => a.1.toInt < b.1.toInt) (h : ltrB os k = true) : ∀ p ∈ os, p.1.toInt < k.toInt := fun p hp => by
  have hpos : 0 < os.length := List.length_pos_of_mem hp
  unfold ltrB at h
  rw [decide_eq_false (by omega), Bool.false_or, decide_eq_true_eq, Int64.lt_iff_toInt_lt, List.getD_eq_getElem?_getD, List.getElem?_eq_getElem (by omega), Option.getD_some] at h
  obtain ⟨i, hi, rfl⟩ := List.getElem_of_mem hp
  rcases Nat.lt_or_ge i (os.length - 1) with h1 | h1
  · have := List.pairwise_iff_getElem.1 ha i (os.length - 1) hi (by omega) h1
    omega
  · have e : i = os.length - 1 := by omega
    subst e
    exact h
theorem key_next {F : Int64 → Int64 → Int64} {al : List Rec} {os : List Pr} {i i2 : Nat} {sm bg : Bool} {ky v : Int64} (h : KeyI F al os) (hm : MinI os al i sm ky) (hs : sm = true) (hi : al.length ≤ i) (hi' : i ≤ al.length) (hf : FoI F ky al i2 bg v) (hi2 : al.length ≤ i2) (hd : ∀ r ∈ al, r.dead = false) :
    KeyI F al (os ++ [((ky, v) : Pr)]) ∧ (al.filter fun r => ltrB (os ++ [((ky, v) : Pr)]) r.key).length < (al.filter fun r => ltrB os r.key).length := by
  obtain ⟨j, hj, hlj, hkj⟩ := hm.is hs
  have hjl : j < al.length := by omega
  have hmem : al.getD j default ∈ al := by rw [List.getD_eq_getElem?_getD, List.getElem?_eq_getElem hjl]; exact List.getElem_mem hjl
  have hlt := ltr_last h.asc hlj
  rw [hkj] at hlt
  have hbg : bg = true := by
    unfold FoI at hf
    rw [List.take_of_length_le hi2] at hf
    cases e : bg
    · rw [e, if_neg (by decide)] at hf
      have := fldK_mem (F := F) (k := ky) (S := al)
      rw [hf] at this
      exact absurd (this.2 ⟨_, hmem, hd _ hmem, hkj⟩) (by decide)
    · rfl
  have hle : ∀ r ∈ al, ltrB os r.key = true → ky.toInt ≤ r.key.toInt := fun r hr hl => by
    obtain ⟨q, hq, rfl⟩ := List.getElem_of_mem hr
    have := hm.le hs q (by omega)
    rw [List.getD_eq_getElem?_getD, List.getElem?_eq_getElem hq, Option.getD_some, Int64.le_iff_toInt_le] at this
    exact this hl
  refine ⟨⟨?_, ?_, ?_⟩, ?_⟩
  · refine List.pairwise_append.2 ⟨h.asc, by simp, fun a ha c hc => ?_⟩
    rw [List.mem_singleton] at hc
    subst hc
    exact hlt a ha
  · intro p hp
    rcases List.mem_append.1 hp with hp | hp
    · exact h.val p hp
    · rw [List.mem_singleton] at hp
      subst hp
      unfold FoI at hf
      rw [List.take_of_length_le hi2, hbg, if_pos rfl] at hf
      exact hf
  · intro r hr
    rw [ltr_snoc, decide_eq_true_eq, Int64.lt_iff_toInt_lt]
    rcases h.all r hr with h1 | h1
    · exact .inl (by rw [List.map_append]; exact List.mem_append_left _ h1)
    · have := hle r hr h1
      by_cases e : r.key = ky
      · exact .inl (by rw [List.map_append]; exact List.mem_append_right _ (by simp [e]))
      · have : r.key.toInt ≠ ky.toInt := fun e2 => e (Int64.toInt_inj.1 e2)
        exact .inr (by show ky.toInt < r.key.toInt; omega)
  · have hsub : ∀ r, ltrB (os ++ [((ky, v) : Pr)]) r = true → ltrB os r = true := fun r hr => by
      rw [ltr_snoc, decide_eq_true_eq, Int64.lt_iff_toInt_lt] at hr
      unfold ltrB at hlj ⊢
      by_cases e : os.length = 0
      · rw [decide_eq_true e]; rfl
      · rw [decide_eq_false e, Bool.false_or, decide_eq_true_eq, Int64.lt_iff_toInt_lt] at hlj ⊢
        rw [hkj] at hlj
        have hr' : ky.toInt < r.toInt := hr
        omega
    have e : (al.filter fun r => ltrB (os ++ [((ky, v) : Pr)]) r.key) = ((al.filter fun r => ltrB os r.key).filter fun r => ltrB (os ++ [((ky, v) : Pr)]) r.key) := by
      rw [List.filter_filter]
      refine List.filter_congr fun r _ => ?_
      cases hb : ltrB (os ++ [((ky, v) : Pr)]) r.key
      · rfl
      · rw [hsub _ hb]; rfl
    rw [e]
    refine List.length_filter_lt_length_iff_exists.2 ⟨al.getD j default, List.mem_filter.2 ⟨hmem, hlj⟩, ?_⟩
    rw [ltr_snoc, hkj]
    simp [Int64.lt_irrefl]
def finT (G : Int64 → Int64 → Int64) (os : List Pr) (i : Nat) : List Pr := (os.take i).map (fun p => ((p.1, G p.2 p.1) : Pr)) ++ os.drop i
theorem finT_len (G : Int64 → Int64 → Int64) (os : List Pr) (i : Nat) : (finT G os i).length = os.length := by
  unfold finT
  rw [List.length_append, List.length_map, List.length_take, List.length_drop]
  omega
theorem finT_at (G : Int64 → Int64 → Int64) {os : List Pr} {i : Nat} (h : i < os.length) : (finT G os i).getD i default = os.getD i default := by
  unfold finT
  rw [getD_app2, if_neg (by rw [List.length_map, List.length_take]; omega), List.length_map, List.length_take, Nat.min_eq_left (by omega), Nat.sub_self, List.getD_eq_getElem?_getD, List.getElem?_drop, Nat.add_zero, List.getD_eq_getElem?_getD]
theorem finT_next (G : Int64 → Int64 → Int64) {os : List Pr} {i : Nat} (h : i < os.length) : (finT G os i).set i ((((finT G os i).getD i default).1, G ((finT G os i).getD i default).2 ((finT G os i).getD i default).1) : Pr) = finT G os (i + 1) := by
  rw [finT_at G h]
  unfold finT
  rw [List.set_append_right _ _ (by rw [List.length_map, List.length_take]; omega), List.length_map, List.length_take, Nat.min_eq_left (by omega), Nat.sub_self, List.drop_eq_getElem_cons h, List.set_cons_zero, List.take_succ_eq_append_getElem h, List.map_append, List.append_assoc, List.getD_eq_getElem?_getD, List.getElem?_eq_getElem h]
  rfl
theorem key_out {F G : Int64 → Int64 → Int64} {al org : List Rec} {os : List Pr} {i j : Nat} {ky : Int64} {sm : Bool} (h : KeyI F al os) (hm : MinI os al i sm ky) (hs : sm = false) (hi : al.length ≤ i) (ha : al = lv org) (hj : os.length ≤ j) : OutI F G org (finT G os j) := by
  have e : finT G os j = os.map fun p => ((p.1, G p.2 p.1) : Pr) := by
    unfold finT
    rw [List.take_of_length_le hj, List.drop_of_length_le hj, List.append_nil]
  have hk : (os.map fun p => ((p.1, G p.2 p.1) : Pr)).map (·.1) = os.map (·.1) := by simp
  have hf : ∀ k, fldK F k org = fldK F k al := fun k => by rw [ha, fldK_lv]
  rw [e]
  refine ⟨?_, fun p hp => ?_, fun k hk2 => ?_⟩
  · rw [List.pairwise_map]; exact h.asc
  · obtain ⟨p', hp', rfl⟩ := List.mem_map.1 hp
    exact ⟨p'.2, by rw [hf]; exact h.val p' hp', rfl⟩
  · rw [hk]
    rw [hf] at hk2
    obtain ⟨r, hr, -, e3⟩ := fldK_mem.1 hk2
    rcases h.all r hr with h1 | h1
    · rw [← e3]; exact h1
    · obtain ⟨q, hq, rfl⟩ := List.getElem_of_mem hr
      have := hm.no hs q (by omega)
      rw [List.getD_eq_getElem?_getD, List.getElem?_eq_getElem hq, Option.getD_some, h1] at this
      cases this
end Go.Proofs.Ytldkjjnjdjfipaa
