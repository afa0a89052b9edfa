/- Programs: what may be; the machine's run; walked. -/
import Derived.Test.YtldkjjnjdjfipaaP11b
import Derived.Test.YtldkjjnjdjfipaaWCt
import Derived.Test.YtldkjjnjdjfipaaRf
import Derived.Test.YtldkjjnjdjfipaaGen
namespace Go.Proofs.Ytldkjjnjdjfipaa
open Go Go.RowKit
set_option linter.unusedVariables false
set_option linter.unusedSimpArgs false
set_option maxRecDepth 10000
set_option maxHeartbeats 1000000

theorem equalO (w : World) (a b : Opc) : (Op.equal 86 (.agg #[.int .i64 a.o0, .int .i64 a.o1, .int .i64 a.o2, .int .i64 a.o3, .int .i64 a.o4, .int .i64 a.o5.toInt]) (.agg #[.int .i64 b.o0, .int .i64 b.o1, .int .i64 b.o2, .int .i64 b.o3, .int .i64 b.o4, .int .i64 b.o5.toInt])).run Try.prog w = .ok (decide (a = b)) w := by
  have e : decide (a = b) = (decide (a.o0 = b.o0) && (decide (a.o1 = b.o1) && (decide (a.o2 = b.o2) && (decide (a.o3 = b.o3) && (decide (a.o4 = b.o4) && decide (a.o5.toInt = b.o5.toInt)))))) := by
    rw [Bool.eq_iff_iff]
    cases a; cases b
    simp [Int64.toInt_inj]
  rw [e]
  simp [go_sem, Op.equal, Op.maxDepth]
  by_cases h0 : a.o0 = b.o0 <;> by_cases h1 : a.o1 = b.o1 <;> by_cases h2 : a.o2 = b.o2 <;> by_cases h3 : a.o3 = b.o3 <;> by_cases h4 : a.o4 = b.o4 <;> by_cases h5 : a.o5.toInt = b.o5.toInt <;> simp [h0, h1, h2, h3, h4, h5]
theorem all_step {α : Type} [Inhabited α] {l : List α} {f : α → Bool} {i : Nat} (hi : i < l.length) (h : (l.take i).all f = true) (h2 : f (l.getD i default) = true) : (l.take (i + 1)).all f = true := by
  rw [List.take_succ_eq_append_getElem hi, List.all_append, h]
  rw [List.getD_eq_getElem?_getD, List.getElem?_eq_getElem hi] at h2
  simpa using h2
theorem part_no {k : Int} {l : List Opc} {i : Nat} (hi : i < l.length) (h : opOk k (l.getD i default) = false) : partOk k l = false := by
  unfold partOk
  have h2 : l.all (opOk k) = false := by
    rw [List.all_eq_false]
    refine ⟨l.getD i default, ?_, by rw [h]; decide⟩
    rw [List.getD_eq_getElem?_getD, List.getElem?_eq_getElem hi]
    exact List.getElem_mem hi
  rw [h2, Bool.and_false]
theorem part_long {k : Int} {l : List Opc} (h : 40 < l.length) : partOk k l = false := by
  unfold partOk
  rw [decide_eq_false (by omega), Bool.false_and]
theorem part_yes {k : Int} {l : List Opc} {i : Nat} (h1 : l.length ≤ 40) (hi : l.length ≤ i) (h : (l.take i).all (opOk k) = true) : partOk k l = true := by
  rw [List.take_of_length_le hi] at h
  unfold partOk
  rw [h, decide_eq_true h1]
  rfl
theorem op_no1 {k : Int} {o : Opc} (h : o.o0 < 1 ∨ 12 < o.o0) : opOk k o = false := by
  unfold opOk
  rw [decide_eq_false (show ¬ (1 ≤ o.o0 ∧ o.o0 ≤ 12) by omega), Bool.false_and, Bool.false_and]
theorem op_no2 {k : Int} {o : Opc} {j : Nat} (hj : j < 4) (h : ([o.o1, o.o2, o.o3, o.o4] : List Int).getD j default < 0 ∨ 8 ≤ ([o.o1, o.o2, o.o3, o.o4] : List Int).getD j default) : opOk k o = false := by
  have h2 : (rOk o.o1 && rOk o.o2 && rOk o.o3 && rOk o.o4) = false := by
    rw [Bool.eq_false_iff]
    intro h3
    simp only [Bool.and_eq_true, rOk, decide_eq_true_eq] at h3
    match j, hj with
    | 0, _ => simp at h; omega
    | 1, _ => simp at h; omega
    | 2, _ => simp at h; omega
    | 3, _ => simp at h; omega
  unfold opOk
  rw [h2, Bool.and_false, Bool.false_and]
theorem op_no3 {k : Int} {o : Opc} (h : o.o0 = 12) (h2 : o.o5.toInt < 0 ∨ k ≤ o.o5.toInt) : opOk k o = false := by
  unfold opOk
  rw [decide_eq_false (show ¬ (o.o0 ≠ 12) by omega), decide_eq_false (show ¬ (0 ≤ o.o5.toInt ∧ o.o5.toInt < k) by omega)]
  simp
theorem reg_all {o : Opc} {j : Nat} (hj : 4 ≤ j) (h : (([o.o1, o.o2, o.o3, o.o4] : List Int).take j).all rOk = true) : (rOk o.o1 && rOk o.o2 && rOk o.o3 && rOk o.o4) = true := by
  rw [List.take_of_length_le hj] at h
  simpa [Bool.and_assoc] using h
theorem op_yes {k : Int} {o : Opc} {j : Nat} (h1 : 1 ≤ o.o0) (h2 : o.o0 ≤ 12) (hj : 4 ≤ j) (h : (([o.o1, o.o2, o.o3, o.o4] : List Int).take j).all rOk = true) (h3 : o.o0 = 12 → 0 ≤ o.o5.toInt ∧ o.o5.toInt < k) : opOk k o = true := by
  unfold opOk
  rw [reg_all hj h, decide_eq_true ⟨h1, h2⟩]
  by_cases h4 : o.o0 = 12
  · rw [decide_eq_true (h3 h4)]; simp
  · rw [decide_eq_true h4]; rfl
theorem chk_n0 {k : Int} {a b c : List Opc} (h : k < 1 ∨ 4 < k) : chkB k a b c = false := by unfold chkB; rw [decide_eq_false (by omega), Bool.false_and]
theorem chk_n1 {k : Int} {a b c : List Opc} (h : partOk k a = false) : chkB k a b c = false := by unfold chkB; rw [h]; simp
theorem chk_n2 {k : Int} {a b c : List Opc} (h : partOk 0 b = false) : chkB k a b c = false := by unfold chkB; rw [h]; simp
theorem chk_n3 {k : Int} {a b c : List Opc} (h : partOk 0 c = false) : chkB k a b c = false := by unfold chkB; rw [h]; simp
theorem chk_all {k : Int} {a b c : List Opc} (h1 : 1 ≤ k) (h2 : k ≤ 4) (ha : partOk k a = true) (hb : partOk 0 b = true) (hc : partOk 0 c = true) : chkB k a b c = true := by unfold chkB; rw [ha, hb, hc, decide_eq_true ⟨h1, h2⟩]; rfl
theorem and63 (b : Int64) : (b.toUInt64 &&& 63).toNat = (b &&& 63).toBitVec.toNat := by rfl
theorem and63_lt (b : Int64) : (b &&& 63).toBitVec.toNat < 64 := by
  rw [← and63, UInt64.toNat_and]
  have : b.toUInt64.toNat &&& (63 : UInt64).toNat ≤ 63 := Nat.and_le_right
  omega
theorem sar_eq (a b : Int64) : (a >>> (b &&& 63)).toInt = a.toInt / 2 ^ (b.toUInt64 &&& 63).toNat := by
  have h := and63_lt b
  rw [and63]
  generalize (b &&& 63) = c at *
  rw [← Int64.toInt_toBitVec, Int64.toBitVec_shiftRight]
  have hs : (c.toBitVec.smod 64) = c.toBitVec := by
    have h1 : c.toBitVec.msb = false := by rw [BitVec.msb_eq_decide]; simp; omega
    rw [BitVec.smod_eq, h1]
    have h2 : (64 : BitVec 64).msb = false := by decide
    rw [h2]
    simp only []
    apply BitVec.eq_of_toNat_eq
    show (c.toBitVec % 64).toNat = _
    rw [BitVec.toNat_umod]
    exact Nat.mod_eq_of_lt h
  rw [hs]
  unfold BitVec.sshiftRight'
  rw [BitVec.toInt_sshiftRight, Int.shiftRight_eq_div_pow, Int64.toInt_toBitVec]
  norm_cast
theorem i_sar (a b : Int64) : a.toInt / 2 ^ min (((b.toUInt64 &&& 63).toNat : Nat) : Int).toNat IntKind.i64.bits = (a >>> (b &&& 63)).toInt := by
  have h := and63_lt b
  rw [← and63] at h
  rw [sar_eq, Int.toNat_natCast, Nat.min_eq_left (by show _ ≤ 64; omega)]
theorem i64_inj {a b : Int64} : (a.toUInt64 = b.toUInt64) = (a = b) := by rw [eq_iff_iff]; exact ⟨fun h => by have h2 := congrArg UInt64.toInt64 h; simpa using h2, fun h => by rw [h]⟩
theorem one_less (b : Bool) : (b64 b).toInt64 = one64 b := by cases b <;> rfl
theorem one_same (a b : Int64) : decide (a.toUInt64 = b.toUInt64) = decide (a = b) := by rw [decide_eq_decide, i64_inj]
theorem b64_bit (b : Bool) : (b64 b &&& 1 = 1) = (b = true) := by cases b <;> simp [b64]
theorem zero_same (a : Int64) : (a.toUInt64 = 0) = (a = 0) := i64_inj (b := 0)
theorem pick64 (a b c : Int64) : (if b64 (decide (a.toUInt64 = 0)) &&& 1 = 1 then c.toUInt64 else b.toUInt64).toInt64 = if a = 0 then c else b := by
  simp only [b64_bit, decide_eq_true_eq, zero_same]
  split <;> simp
theorem emit_eq (q kk v al : Int64) : Rec.mk (decide (b64 (decide (al.toUInt64 = 0)) = 1)) ((if b64 (decide (al.toUInt64 = 0)) &&& 1 = 1 then 0 else kk.toUInt64).toInt64) ((if b64 (decide (al.toUInt64 = 0)) &&& 1 = 1 then 0 else v.toUInt64).toInt64) ((if b64 (decide (al.toUInt64 = 0)) &&& 1 = 1 then 0 else q.toUInt64).toInt64) = emitR q kk v al := by
  simp only [b64_bit, decide_eq_true_eq, zero_same, b64_one]
  unfold emitR
  by_cases h : al = 0 <;> simp [h]
/-- the machine's cells -/
@[reducible] def macV (Rg : List Int64) (a : Option Addr) (z c : Nat) (q : Int64) : List Value := [.int .i64 (Rg.getD 0 0).toInt, .int .i64 (Rg.getD 1 0).toInt, .int .i64 (Rg.getD 2 0).toInt, .int .i64 (Rg.getD 3 0).toInt, .int .i64 (Rg.getD 4 0).toInt, .int .i64 (Rg.getD 5 0).toInt, .int .i64 (Rg.getD 6 0).toInt, .int .i64 (Rg.getD 7 0).toInt, .slice a z c, .int .i64 q.toInt]
theorem mac_get {Rg : List Int64} {a : Option Addr} {z c : Nat} {q : Int64} {i : Nat} (h : i < 8) : (macV Rg a z c q)[0 + i * 1]? = some (.int .i64 (Rg.getD i 0).toInt) := by
  match i, h with
  | 0, _ => rfl
  | 1, _ => rfl
  | 2, _ => rfl
  | 3, _ => rfl
  | 4, _ => rfl
  | 5, _ => rfl
  | 6, _ => rfl
  | 7, _ => rfl
theorem mac_set {Rg R2 : List Int64} (hR : Rg.length = 8) {a : Option Addr} {z c : Nat} {q : Int64} {i : Nat} (h : i < 8) {v : Int64} (h2 : Rg.set i v = R2) : (macV Rg a z c q).take (0 + i * 1) ++ [.int .i64 v.toInt] ++ (macV Rg a z c q).drop (0 + i * 1 + [Value.int .i64 v.toInt].length) = macV R2 a z c q := by
  subst h2
  match Rg, hR with
  | [r0, r1, r2, r3, r4, r5, r6, r7], _ =>
    match i, h with
    | 0, _ => rfl
    | 1, _ => rfl
    | 2, _ => rfl
    | 3, _ => rfl
    | 4, _ => rfl
    | 5, _ => rfl
    | 6, _ => rfl
    | 7, _ => rfl
theorem SH.lend {w0 w : World} {D : List Nat} {A M : List Res} (h : SH w0 D (A ++ M) w) : SH w (A.flatMap Res.fp) A w := by
  have h1 : SH w0 D (M ++ A) w := h.perm List.perm_append_comm
  exact (SH.dropAll M h1).self

theorem part_c (ga : Option Addr) (gn gc : Nat) (l : List Opc) (k : Int) (w : World) (hn : l.length = gn) (hr : Rds w ga (l.flatMap opcV)) (hb : gn ≤ 1000000) : Pure Try.prog 174 #[.slice ga gn gc, .int .i64 k] w (.bool (partOk k l)) := by
  refine calls_S (n := 60) (σ0 := (upd (upd fr0 0 (.slice ga gn gc)) 1 (.int .i64 k))) (D := []) (A := []) Try.func174 rfl Try.ntmps174 rfl (a2_fr _ _) (SH.start w) ?_
  refine wpS_seq ?_
  refine wpS_region ?_
  refine s_y (v := .bool false) (y_assign rfl) rfl ?_
  refine wpL_nil ?_
  refine thenS_n ?_
  refine wpS_scope ?_
  refine wpS_seq ?_
  refine wpS_seq ?_
  refine wpS_region ?_
  refine s_y (v := .slice ga gn gc) (y_move rfl) rfl ?_
  refine s_y (v := .int .i64 (((gn : Nat) : Int))) (y_len (ty' := 0) (at_ := #[]) rfl Try.underlying82) rfl ?_
  refine s_y (v := .bool (decide ((40 : Nat) < gn))) (y_gtr (a := ((gn : Nat) : Int)) (b := 40) (c := decide ((40 : Nat) < gn)) rfl rfl (decide_eq_decide.2 (by omega))) rfl ?_
  refine wpL_nil ?_
  refine thenS_n ?_
  refine wpS_cond (t := decide ((40 : Nat) < gn)) rfl (fun b1 => ?_) (fun b1 => ?_)
  · -- decide ((40 : Nat) < gn) true
    have p1 := of_decide_eq_true b1
    refine wpS_seq ?_
    refine wpS_region ?_
    refine s_y (v := .bool false) (y_assign rfl) rfl ?_
    refine wpL_nil ?_
    refine thenS_n ?_
    refine wpS_ret ?_
    refine thenS_r ?_
    refine scopeS_r ?_
    refine fin1 (v := .bool false) (.inr rfl) (.nil) Try.results174 rfl ?_
    exact fun w' hs => ⟨congrArg (fun b : Bool => Ending.returned (.bool b)) (by first | exact (part_long (by omega)).symm | exact (part_no (i := i) (by omega) (by first | exact op_no1 (by omega) | exact op_no2 (j := j) (by omega) (by omega) | exact op_no3 (by omega) (by omega))).symm), hs⟩
  · -- decide ((40 : Nat) < gn) false
    have p1 := of_decide_eq_false b1
    refine wpS_skip ?_
    refine thenS_n ?_
    refine wpS_seq ?_
    refine wpS_label ?_
    refine thenS_n ?_
    refine wpS_seq ?_
    refine wpS_seq ?_
    refine wpS_region ?_
    refine s_y (v := .slice ga gn gc) (y_move rfl) rfl ?_
    refine s_y (v := .int .i64 (((gn : Nat) : Int))) (y_len (ty' := 0) (at_ := #[]) rfl Try.underlying82) rfl ?_
    refine s_y (v := .int .i64 0) (y_move rfl) rfl ?_
    refine wpL_nil ?_
    refine thenS_n ?_
    refine wpS_block ?_
    refine wpS_loop (fun mez ds σ L => ∃ i : Nat, mez = gn - i ∧ (i ≤ gn) ∧ ((l.take i).all (opOk k) = true) ∧ ds = [] ∧ σ 1 = .int .i64 k ∧ σ 12 = .slice ga gn gc ∧ σ 13 = .int .i64 (((gn : Nat) : Int)) ∧ σ 14 = .int .i64 (((i : Nat) : Int)) ∧ Ent L []) (m0 := gn - 0) ⟨0, rfl, by omega, by simp, rfl, rfl, rfl, rfl, rfl, .nil⟩ ?_
    rintro mez ds σ L ⟨i, hm_2, hf0_2, hf1_2, rfl, h1_2, h12_2, h13_2, h14_2, hE_2⟩
    refine wpS_ent hE_2 ?_; clear hE_2
    refine wpS_seq ?_
    refine wpS_region ?_
    refine s_y (v := .bool (decide (i < gn))) (y_lss (a := ((i : Nat) : Int)) (b := ((gn : Nat) : Int)) (c := decide (i < gn)) h14_2 h13_2 (decide_eq_decide.2 (by omega))) rfl ?_
    refine wpL_nil ?_
    refine thenS_n ?_
    refine wpS_seq ?_
    refine wpS_cond (t := decide (i < gn)) rfl (fun b3 => ?_) (fun b3 => ?_)
    · -- decide (i < gn) true
      have p3 := of_decide_eq_true b3
      refine wpS_skip ?_
      refine thenS_n ?_
      refine wpS_seq ?_
      refine wpS_block ?_
      refine wpS_seq ?_
      refine wpS_region ?_
      refine s_y (v := .pointer (some ⟨aB ga, aO ga + i * 6, none⟩)) (y_idx (o := i * 6) h12_2 h14_2 Try.underlying82 Try.sizeOf86 (oldR hr) ((fl_len opcV_len _).trans (by first | omega | (simp only [List.length_set, List.length_take, List.length_drop]; done) | (simp only [List.length_set, List.length_take, List.length_drop]; omega))) (by decide) (by omega) (by omega) (by omega)) rfl ?_
      refine s_y (v := .agg #[.int .i64 ((l.getD i default).o0), .int .i64 ((l.getD i default).o1), .int .i64 ((l.getD i default).o2), .int .i64 ((l.getD i default).o3), .int .i64 ((l.getD i default).o4), .int .i64 (((l.getD i default).o5).toInt)]) (y_loadN (vs := opcV (l.getD i default)) rfl Try.isAgg86 Try.sizeOf86 (rdN (oldR hr) (fl_getN opcV_len l i (by first | omega | (simp only [List.length_set, List.length_take, List.length_drop]; done) | (simp only [List.length_set, List.length_take, List.length_drop]; omega))))) rfl ?_
      refine s_e rfl ?_
      refine e_alloc (l := [.int .i64 0, .int .i64 0, .int .i64 0, .int .i64 0, .int .i64 0, .int .i64 0]) Try.zeroValue86 rfl ?_
      intro b_4
      refine s_e0 ?_
      refine e_store (vs := [.int .i64 ((l.getD i default).o0), .int .i64 ((l.getD i default).o1), .int .i64 ((l.getD i default).o2), .int .i64 ((l.getD i default).o3), .int .i64 ((l.getD i default).o4), .int .i64 (((l.getD i default).o5).toInt)]) (l' := [.int .i64 ((l.getD i default).o0), .int .i64 ((l.getD i default).o1), .int .i64 ((l.getD i default).o2), .int .i64 ((l.getD i default).o3), .int .i64 ((l.getD i default).o4), .int .i64 (((l.getD i default).o5).toInt)]) rfl rfl rfl rfl Try.sizeOf86 .h (Nat.le_of_ble_eq_true rfl) rfl ?_
      refine wpL_nil ?_
      refine thenS_n ?_
      refine wpS_seq ?_
      refine wpS_seq ?_
      refine wpS_region ?_
      refine s_y (v := .pointer (some ⟨b_4, 0, none⟩)) (y_fieldAddr (o' := 0) rfl Try.underlying86 rfl Try.sizeOf3 (by decide) rfl) rfl ?_
      refine s_y (v := .int .i64 ((l.getD i default).o0)) (y_load1 rfl Try.isAgg3 (own1 .h rfl)) rfl ?_
      refine s_y (v := .bool (decide (((l.getD i default).o0 : Int) < 1))) (y_lss (a := (l.getD i default).o0) (b := 1) rfl rfl rfl) rfl ?_
      refine s_y (v := .bool (decide (((l.getD i default).o0 : Int) < 1))) (y_move rfl) rfl ?_
      rcases Bool.eq_false_or_eq_true (decide (((l.getD i default).o0 : Int) < 1)) with b5 | b5
      · -- decide (((l.getD i default).o0 : Int) < 1) True
        have p5 := of_decide_eq_true b5
        refine s_no rfl rfl rfl rfl (b' := decide (((l.getD i default).o0 : Int) < 1)) rfl b5 ?_
        refine s_no rfl rfl rfl rfl (b' := decide (((l.getD i default).o0 : Int) < 1)) rfl b5 ?_
        refine s_no rfl rfl rfl rfl (b' := decide (((l.getD i default).o0 : Int) < 1)) rfl b5 ?_
        refine s_y (v := .bool true) (y_pickT (b := decide (((l.getD i default).o0 : Int) < 1)) (v := .bool true) rfl b5 rfl) rfl ?_
        refine wpL_nil ?_
        refine thenS_n ?_
        refine wpS_cond_t rfl ?_
        refine wpS_seq ?_
        refine wpS_region ?_
        refine s_y (v := .bool false) (y_assign rfl) rfl ?_
        refine wpL_nil ?_
        refine thenS_n ?_
        refine wpS_ret ?_
        refine thenS_r ?_
        refine blockS_r ?_
        refine thenS_r ?_
        refine thenS_r ?_
        refine blockS_r ?_
        refine thenS_r ?_
        refine scopeS_r ?_
        refine fin1 (v := .bool false) (.inr rfl) (.nil) Try.results174 rfl ?_
        exact fun w' hs => ⟨congrArg (fun b : Bool => Ending.returned (.bool b)) (by first | exact (part_long (by omega)).symm | exact (part_no (i := i) (by omega) (by first | exact op_no1 (by omega) | exact op_no2 (j := j) (by omega) (by omega) | exact op_no3 (by omega) (by omega))).symm), hs⟩
      · -- decide (((l.getD i default).o0 : Int) < 1) False
        have p5 := of_decide_eq_false b5
        refine s_gy (y_fieldAddr (o' := 0) rfl Try.underlying86 rfl Try.sizeOf3 (by decide) rfl) rfl rfl rfl rfl (b' := decide (((l.getD i default).o0 : Int) < 1)) rfl b5 ?_
        refine s_gy (y_load1 rfl Try.isAgg3 (own1 .h rfl)) rfl rfl rfl rfl (b' := decide (((l.getD i default).o0 : Int) < 1)) rfl b5 ?_
        refine s_gy (y_gtr (a := (l.getD i default).o0) (b := 12) rfl rfl rfl) rfl rfl rfl rfl (b' := decide (((l.getD i default).o0 : Int) < 1)) rfl b5 ?_
        refine s_y (v := .bool (decide ((12 : Int) < ((l.getD i default).o0)))) (y_pickF (b := decide (((l.getD i default).o0 : Int) < 1)) (v := .bool (decide ((12 : Int) < ((l.getD i default).o0)))) rfl b5 rfl) rfl ?_
        refine wpL_nil ?_
        refine thenS_n ?_
        refine wpS_cond (t := decide ((12 : Int) < ((l.getD i default).o0))) rfl (fun b6 => ?_) (fun b6 => ?_)
        · -- decide ((12 : Int) < ((l.getD i default).o0)) true
          have p6 := of_decide_eq_true b6
          refine wpS_seq ?_
          refine wpS_region ?_
          refine s_y (v := .bool false) (y_assign rfl) rfl ?_
          refine wpL_nil ?_
          refine thenS_n ?_
          refine wpS_ret ?_
          refine thenS_r ?_
          refine blockS_r ?_
          refine thenS_r ?_
          refine thenS_r ?_
          refine blockS_r ?_
          refine thenS_r ?_
          refine scopeS_r ?_
          refine fin1 (v := .bool false) (.inr rfl) (.nil) Try.results174 rfl ?_
          exact fun w' hs => ⟨congrArg (fun b : Bool => Ending.returned (.bool b)) (by first | exact (part_long (by omega)).symm | exact (part_no (i := i) (by omega) (by first | exact op_no1 (by omega) | exact op_no2 (j := j) (by omega) (by omega) | exact op_no3 (by omega) (by omega))).symm), hs⟩
        · -- decide ((12 : Int) < ((l.getD i default).o0)) false
          have p6 := of_decide_eq_false b6
          refine wpS_skip ?_
          refine thenS_n ?_
          refine wpS_seq ?_
          refine wpS_seq ?_
          refine wpS_region ?_
          refine s_y (v := .pointer (some ⟨b_4, 1, none⟩)) (y_fieldAddr (o' := 1) rfl Try.underlying86 rfl Try.sizeOf3 (by decide) rfl) rfl ?_
          refine s_y (v := .int .i64 ((l.getD i default).o1)) (y_load1 rfl Try.isAgg3 (own1 .h rfl)) rfl ?_
          refine s_y (v := .pointer (some ⟨b_4, 2, none⟩)) (y_fieldAddr (o' := 2) rfl Try.underlying86 rfl Try.sizeOf3 (by decide) rfl) rfl ?_
          refine s_y (v := .int .i64 ((l.getD i default).o2)) (y_load1 rfl Try.isAgg3 (own1 .h rfl)) rfl ?_
          refine s_y (v := .pointer (some ⟨b_4, 3, none⟩)) (y_fieldAddr (o' := 3) rfl Try.underlying86 rfl Try.sizeOf3 (by decide) rfl) rfl ?_
          refine s_y (v := .int .i64 ((l.getD i default).o3)) (y_load1 rfl Try.isAgg3 (own1 .h rfl)) rfl ?_
          refine s_y (v := .pointer (some ⟨b_4, 4, none⟩)) (y_fieldAddr (o' := 4) rfl Try.underlying86 rfl Try.sizeOf3 (by decide) rfl) rfl ?_
          refine s_y (v := .int .i64 ((l.getD i default).o4)) (y_load1 rfl Try.isAgg3 (own1 .h rfl)) rfl ?_
          refine s_e rfl ?_
          refine e_bsliceL (e := 3) (m := [(0, .int .i64 ((l.getD i default).o1)), (1, .int .i64 ((l.getD i default).o2)), (2, .int .i64 ((l.getD i default).o3)), (3, .int .i64 ((l.getD i default).o4))]) (l := [.int .i64 ((l.getD i default).o1), .int .i64 ((l.getD i default).o2), .int .i64 ((l.getD i default).o3), .int .i64 ((l.getD i default).o4)]) (evc rfl (evc rfl (evc rfl (evc rfl evn)))) (fun w => by kernel_rfl) ?_
          intro b_7
          refine s_y (v := .int .i64 4) (y_len (ty' := 0) (at_ := #[]) rfl Try.underlying39) rfl ?_
          refine s_y (v := .int .i64 0) (y_move rfl) rfl ?_
          refine wpL_nil ?_
          refine thenS_n ?_
          refine wpS_block ?_
          refine wpS_loop (fun mez ds σ L => ∃ j : Nat, mez = 4 - j ∧ (j ≤ 4) ∧ ((([(l.getD i default).o1, (l.getD i default).o2, (l.getD i default).o3, (l.getD i default).o4] : List Int).take j).all rOk = true) ∧ ds = [] ∧ σ 1 = .int .i64 k ∧ σ 6 = .pointer (some ⟨b_4, 0, none⟩) ∧ σ 12 = .slice ga gn gc ∧ σ 13 = .int .i64 (((gn : Nat) : Int)) ∧ σ 14 = .int .i64 (((i : Nat) : Int)) ∧ σ 22 = .pointer (some ⟨b_4, 0, none⟩) ∧ σ 23 = .int .i64 ((l.getD i default).o0) ∧ σ 24 = .bool (decide ((12 : Int) < ((l.getD i default).o0))) ∧ σ 34 = .slice (some ⟨b_7, 0, none⟩) 4 4 ∧ σ 35 = .int .i64 4 ∧ σ 36 = .int .i64 (((j : Nat) : Int)) ∧ Ent L [cel b_7 3 [.int .i64 ((l.getD i default).o1), .int .i64 ((l.getD i default).o2), .int .i64 ((l.getD i default).o3), .int .i64 ((l.getD i default).o4)], cel b_4 86 [.int .i64 ((l.getD i default).o0), .int .i64 ((l.getD i default).o1), .int .i64 ((l.getD i default).o2), .int .i64 ((l.getD i default).o3), .int .i64 ((l.getD i default).o4), .int .i64 (((l.getD i default).o5).toInt)]]) (m0 := 4 - 0) ⟨0, rfl, by omega, by simp, rfl, h1_2, rfl, h12_2, h13_2, h14_2, rfl, rfl, rfl, rfl, rfl, rfl, .p .h (.p .h .nil)⟩ ?_
          rintro mez ds σ L ⟨j, hm_8, hf0_8, hf1_8, rfl, h1_8, h6_8, h12_8, h13_8, h14_8, h22_8, h23_8, h24_8, h34_8, h35_8, h36_8, hE_8⟩
          refine wpS_ent hE_8 ?_; clear hE_8
          refine wpS_seq ?_
          refine wpS_region ?_
          refine s_y (v := .bool (decide ((j : Nat) < 4))) (y_lss (a := ((j : Nat) : Int)) (b := 4) (c := decide ((j : Nat) < 4)) h36_8 h35_8 (decide_eq_decide.2 (by omega))) rfl ?_
          refine wpL_nil ?_
          refine thenS_n ?_
          refine wpS_seq ?_
          refine wpS_cond (t := decide ((j : Nat) < 4)) rfl (fun b9 => ?_) (fun b9 => ?_)
          · -- decide ((j : Nat) < 4) true
            have p9 := of_decide_eq_true b9
            refine wpS_skip ?_
            refine thenS_n ?_
            refine wpS_seq ?_
            refine wpS_block ?_
            refine wpS_seq ?_
            refine wpS_region ?_
            refine s_y (v := .pointer (some ⟨aB (some ⟨b_7, 0, none⟩), aO (some ⟨b_7, 0, none⟩) + j * 1, none⟩)) (y_idx (o := j * 1) h34_8 h36_8 Try.underlying39 Try.sizeOf3 (fun w hs => (show Rds w _ ([(l.getD i default).o1, (l.getD i default).o2, (l.getD i default).o3, (l.getD i default).o4].flatMap intV) from celR .h w hs)) (fl_len intV_len _) (by decide) (by omega) (by omega) (by omega)) rfl ?_
            refine s_y (v := .int .i64 ((([(l.getD i default).o1, (l.getD i default).o2, (l.getD i default).o3, (l.getD i default).o4]).getD j default))) (y_load1 (v := .int .i64 ((([(l.getD i default).o1, (l.getD i default).o2, (l.getD i default).o3, (l.getD i default).o4]).getD j default))) rfl Try.isAgg3 (rd1 (k := j * 1) (fun w hs => (show Rds w _ ([(l.getD i default).o1, (l.getD i default).o2, (l.getD i default).o3, (l.getD i default).o4].flatMap intV) from celR .h w hs)) (fl_get0 intV_len ([(l.getD i default).o1, (l.getD i default).o2, (l.getD i default).o3, (l.getD i default).o4]) j (by show _ < 4; omega) rfl))) rfl ?_
            refine s_y (v := .int .i64 ((([(l.getD i default).o1, (l.getD i default).o2, (l.getD i default).o3, (l.getD i default).o4]).getD j default))) (y_assign rfl) rfl ?_
            refine wpL_nil ?_
            refine thenS_n ?_
            refine wpS_seq ?_
            refine wpS_region ?_
            refine s_y (v := .int .i64 ((([(l.getD i default).o1, (l.getD i default).o2, (l.getD i default).o3, (l.getD i default).o4]).getD j default))) (y_move rfl) rfl ?_
            refine s_y (v := .bool (decide (((([(l.getD i default).o1, (l.getD i default).o2, (l.getD i default).o3, (l.getD i default).o4]).getD j default) : Int) < 0))) (y_lss (a := (([(l.getD i default).o1, (l.getD i default).o2, (l.getD i default).o3, (l.getD i default).o4]).getD j default)) (b := 0) rfl rfl rfl) rfl ?_
            refine s_y (v := .bool (decide (((([(l.getD i default).o1, (l.getD i default).o2, (l.getD i default).o3, (l.getD i default).o4]).getD j default) : Int) < 0))) (y_move rfl) rfl ?_
            rcases Bool.eq_false_or_eq_true (decide (((([(l.getD i default).o1, (l.getD i default).o2, (l.getD i default).o3, (l.getD i default).o4]).getD j default) : Int) < 0)) with b10 | b10
            · -- decide (((([(l.getD i default).o1, (l.getD i default).o2, (l.getD i default).o3, (l.getD i default).o4]).getD j default) : Int) < 0) True
              have p10 := of_decide_eq_true b10
              refine s_no rfl rfl rfl rfl (b' := decide (((([(l.getD i default).o1, (l.getD i default).o2, (l.getD i default).o3, (l.getD i default).o4]).getD j default) : Int) < 0)) rfl b10 ?_
              refine s_no rfl rfl rfl rfl (b' := decide (((([(l.getD i default).o1, (l.getD i default).o2, (l.getD i default).o3, (l.getD i default).o4]).getD j default) : Int) < 0)) rfl b10 ?_
              refine s_y (v := .bool true) (y_pickT (b := decide (((([(l.getD i default).o1, (l.getD i default).o2, (l.getD i default).o3, (l.getD i default).o4]).getD j default) : Int) < 0)) (v := .bool true) rfl b10 rfl) rfl ?_
              refine wpL_nil ?_
              refine thenS_n ?_
              refine wpS_cond_t rfl ?_
              refine wpS_seq ?_
              refine wpS_region ?_
              refine s_y (v := .bool false) (y_assign rfl) rfl ?_
              refine wpL_nil ?_
              refine thenS_n ?_
              refine wpS_ret ?_
              refine blockS_r ?_
              refine thenS_r ?_
              refine thenS_r ?_
              refine blockS_r ?_
              refine thenS_r ?_
              refine blockS_r ?_
              refine thenS_r ?_
              refine thenS_r ?_
              refine blockS_r ?_
              refine thenS_r ?_
              refine scopeS_r ?_
              refine fin1 (v := .bool false) (.inr rfl) (.nil) Try.results174 rfl ?_
              exact fun w' hs => ⟨congrArg (fun b : Bool => Ending.returned (.bool b)) (by first | exact (part_long (by omega)).symm | exact (part_no (i := i) (by omega) (by first | exact op_no1 (by omega) | exact op_no2 (j := j) (by omega) (by omega) | exact op_no3 (by omega) (by omega))).symm), hs⟩
            · -- decide (((([(l.getD i default).o1, (l.getD i default).o2, (l.getD i default).o3, (l.getD i default).o4]).getD j default) : Int) < 0) False
              have p10 := of_decide_eq_false b10
              refine s_gy (y_move rfl) rfl rfl rfl rfl (b' := decide (((([(l.getD i default).o1, (l.getD i default).o2, (l.getD i default).o3, (l.getD i default).o4]).getD j default) : Int) < 0)) rfl b10 ?_
              refine s_gy (y_geq (a := (([(l.getD i default).o1, (l.getD i default).o2, (l.getD i default).o3, (l.getD i default).o4]).getD j default)) (b := 8) rfl rfl rfl) rfl rfl rfl rfl (b' := decide (((([(l.getD i default).o1, (l.getD i default).o2, (l.getD i default).o3, (l.getD i default).o4]).getD j default) : Int) < 0)) rfl b10 ?_
              refine s_y (v := .bool (decide ((8 : Int) ≤ (([(l.getD i default).o1, (l.getD i default).o2, (l.getD i default).o3, (l.getD i default).o4]).getD j default)))) (y_pickF (b := decide (((([(l.getD i default).o1, (l.getD i default).o2, (l.getD i default).o3, (l.getD i default).o4]).getD j default) : Int) < 0)) (v := .bool (decide ((8 : Int) ≤ (([(l.getD i default).o1, (l.getD i default).o2, (l.getD i default).o3, (l.getD i default).o4]).getD j default)))) rfl b10 rfl) rfl ?_
              refine wpL_nil ?_
              refine thenS_n ?_
              refine wpS_cond (t := decide ((8 : Int) ≤ (([(l.getD i default).o1, (l.getD i default).o2, (l.getD i default).o3, (l.getD i default).o4]).getD j default))) rfl (fun b11 => ?_) (fun b11 => ?_)
              · -- decide ((8 : Int) ≤ (([(l.getD i default).o1, (l.getD i default).o2, (l.getD i default).o3, (l.getD i default).o4]).getD j default)) true
                have p11 := of_decide_eq_true b11
                refine wpS_seq ?_
                refine wpS_region ?_
                refine s_y (v := .bool false) (y_assign rfl) rfl ?_
                refine wpL_nil ?_
                refine thenS_n ?_
                refine wpS_ret ?_
                refine blockS_r ?_
                refine thenS_r ?_
                refine thenS_r ?_
                refine blockS_r ?_
                refine thenS_r ?_
                refine blockS_r ?_
                refine thenS_r ?_
                refine thenS_r ?_
                refine blockS_r ?_
                refine thenS_r ?_
                refine scopeS_r ?_
                refine fin1 (v := .bool false) (.inr rfl) (.nil) Try.results174 rfl ?_
                exact fun w' hs => ⟨congrArg (fun b : Bool => Ending.returned (.bool b)) (by first | exact (part_long (by omega)).symm | exact (part_no (i := i) (by omega) (by first | exact op_no1 (by omega) | exact op_no2 (j := j) (by omega) (by omega) | exact op_no3 (by omega) (by omega))).symm), hs⟩
              · -- decide ((8 : Int) ≤ (([(l.getD i default).o1, (l.getD i default).o2, (l.getD i default).o3, (l.getD i default).o4]).getD j default)) false
                have p11 := of_decide_eq_false b11
                refine wpS_skip ?_
                refine blockS_n ?_
                refine thenS_n ?_
                refine wpS_region ?_
                refine s_y (v := .int .i64 ((((j + 1) : Nat) : Int))) (y_add (a := ((j : Nat) : Int)) (b := 1) (c := (((j + 1) : Nat) : Int)) h36_8 rfl (wI (by omega) (by omega) (by omega))) rfl ?_
                refine s_y (v := .int .i64 ((((j + 1) : Nat) : Int))) (y_move rfl) rfl ?_
                refine wpL_nil ?_
                refine thenS_n ?_
                exact ⟨_, by omega, ⟨(j + 1), rfl, by omega, (all_step (by show _ < 4; omega) (by assumption) (decide_eq_true (by omega))), rfl, h1_8, h6_8, h12_8, h13_8, h14_8, h22_8, h23_8, h24_8, h34_8, h35_8, rfl, .p .h (.p .h .nil)⟩⟩
          · -- decide ((j : Nat) < 4) false
            have p9 := of_decide_eq_false b9
            refine wpS_exit ?_
            refine thenS_x ?_
            refine thenS_x ?_
            refine blockS_h ?_
            refine thenS_n ?_
            refine wpS_seq ?_
            refine wpS_seq ?_
            refine wpS_region ?_
            refine s_y (v := .pointer (some ⟨b_4, 0, none⟩)) (y_fieldAddr (o' := 0) h6_8 Try.underlying86 rfl Try.sizeOf3 (by decide) rfl) rfl ?_
            refine s_y (v := .int .i64 ((l.getD i default).o0)) (y_load1 rfl Try.isAgg3 (own1 (.t .h) rfl)) rfl ?_
            refine s_y (v := .bool (decide (((l.getD i default).o0 : Int) ≠ 12))) (y_neq (a := (l.getD i default).o0) (b := 12) rfl rfl rfl) rfl ?_
            refine wpL_nil ?_
            refine thenS_n ?_
            refine wpS_cond (t := decide (((l.getD i default).o0 : Int) ≠ 12)) rfl (fun b12 => ?_) (fun b12 => ?_)
            · -- decide (((l.getD i default).o0 : Int) ≠ 12) true
              have p12 := of_decide_eq_true b12
              refine wpS_exit ?_
              refine thenS_x ?_
              refine blockS_h ?_
              refine thenS_n ?_
              refine wpS_region ?_
              refine s_y (v := .int .i64 ((((i + 1) : Nat) : Int))) (y_add (a := ((i : Nat) : Int)) (b := 1) (c := (((i + 1) : Nat) : Int)) h14_8 rfl (wI (by omega) (by omega) (by omega))) rfl ?_
              refine s_y (v := .int .i64 ((((i + 1) : Nat) : Int))) (y_move rfl) rfl ?_
              refine wpL_nil ?_
              refine thenS_n ?_
              exact ⟨_, by omega, ⟨(i + 1), rfl, by omega, (all_step (by omega) (by assumption) (op_yes (j := j) (by omega) (by omega) (by omega) (by assumption) (by omega))), rfl, h1_8, h12_8, h13_8, rfl, .nil⟩⟩
            · -- decide (((l.getD i default).o0 : Int) ≠ 12) false
              have p12 := of_decide_eq_false b12
              refine wpS_skip ?_
              refine thenS_n ?_
              refine wpS_seq ?_
              refine wpS_region ?_
              refine s_y (v := .pointer (some ⟨b_4, 5, none⟩)) (y_fieldAddr (o' := 5) h6_8 Try.underlying86 rfl Try.sizeOf2 (by decide) rfl) rfl ?_
              refine s_y (v := .int .i64 (((l.getD i default).o5).toInt)) (y_load1 rfl Try.isAgg2 (own1 (.t .h) rfl)) rfl ?_
              refine s_y (v := .bool (decide ((((l.getD i default).o5).toInt : Int) < 0))) (y_lss (a := ((l.getD i default).o5).toInt) (b := 0) rfl rfl rfl) rfl ?_
              refine s_y (v := .bool (decide ((((l.getD i default).o5).toInt : Int) < 0))) (y_move rfl) rfl ?_
              rcases Bool.eq_false_or_eq_true (decide ((((l.getD i default).o5).toInt : Int) < 0)) with b13 | b13
              · -- decide ((((l.getD i default).o5).toInt : Int) < 0) True
                have p13 := of_decide_eq_true b13
                refine s_no rfl rfl rfl rfl (b' := decide ((((l.getD i default).o5).toInt : Int) < 0)) rfl b13 ?_
                refine s_no rfl rfl rfl rfl (b' := decide ((((l.getD i default).o5).toInt : Int) < 0)) rfl b13 ?_
                refine s_no rfl rfl rfl rfl (b' := decide ((((l.getD i default).o5).toInt : Int) < 0)) rfl b13 ?_
                refine s_no rfl rfl rfl rfl (b' := decide ((((l.getD i default).o5).toInt : Int) < 0)) rfl b13 ?_
                refine s_y (v := .bool true) (y_pickT (b := decide ((((l.getD i default).o5).toInt : Int) < 0)) (v := .bool true) rfl b13 rfl) rfl ?_
                refine wpL_nil ?_
                refine thenS_n ?_
                refine wpS_cond_t rfl ?_
                refine wpS_seq ?_
                refine wpS_region ?_
                refine s_y (v := .bool false) (y_assign rfl) rfl ?_
                refine wpL_nil ?_
                refine thenS_n ?_
                refine wpS_ret ?_
                refine blockS_r ?_
                refine thenS_r ?_
                refine thenS_r ?_
                refine blockS_r ?_
                refine thenS_r ?_
                refine scopeS_r ?_
                refine fin1 (v := .bool false) (.inr rfl) (.nil) Try.results174 rfl ?_
                exact fun w' hs => ⟨congrArg (fun b : Bool => Ending.returned (.bool b)) (by first | exact (part_long (by omega)).symm | exact (part_no (i := i) (by omega) (by first | exact op_no1 (by omega) | exact op_no2 (j := j) (by omega) (by omega) | exact op_no3 (by omega) (by omega))).symm), hs⟩
              · -- decide ((((l.getD i default).o5).toInt : Int) < 0) False
                have p13 := of_decide_eq_false b13
                refine s_gy (y_fieldAddr (o' := 5) h6_8 Try.underlying86 rfl Try.sizeOf2 (by decide) rfl) rfl rfl rfl rfl (b' := decide ((((l.getD i default).o5).toInt : Int) < 0)) rfl b13 ?_
                refine s_gy (y_load1 rfl Try.isAgg2 (own1 (.t .h) rfl)) rfl rfl rfl rfl (b' := decide ((((l.getD i default).o5).toInt : Int) < 0)) rfl b13 ?_
                refine s_gy (y_move h1_8) rfl rfl rfl rfl (b' := decide ((((l.getD i default).o5).toInt : Int) < 0)) rfl b13 ?_
                refine s_gy (y_geq (a := ((l.getD i default).o5).toInt) (b := k) rfl rfl rfl) rfl rfl rfl rfl (b' := decide ((((l.getD i default).o5).toInt : Int) < 0)) rfl b13 ?_
                refine s_y (v := .bool (decide ((k : Int) ≤ (((l.getD i default).o5).toInt)))) (y_pickF (b := decide ((((l.getD i default).o5).toInt : Int) < 0)) (v := .bool (decide ((k : Int) ≤ (((l.getD i default).o5).toInt)))) rfl b13 rfl) rfl ?_
                refine wpL_nil ?_
                refine thenS_n ?_
                refine wpS_cond (t := decide ((k : Int) ≤ (((l.getD i default).o5).toInt))) rfl (fun b14 => ?_) (fun b14 => ?_)
                · -- decide ((k : Int) ≤ (((l.getD i default).o5).toInt)) true
                  have p14 := of_decide_eq_true b14
                  refine wpS_seq ?_
                  refine wpS_region ?_
                  refine s_y (v := .bool false) (y_assign rfl) rfl ?_
                  refine wpL_nil ?_
                  refine thenS_n ?_
                  refine wpS_ret ?_
                  refine blockS_r ?_
                  refine thenS_r ?_
                  refine thenS_r ?_
                  refine blockS_r ?_
                  refine thenS_r ?_
                  refine scopeS_r ?_
                  refine fin1 (v := .bool false) (.inr rfl) (.nil) Try.results174 rfl ?_
                  exact fun w' hs => ⟨congrArg (fun b : Bool => Ending.returned (.bool b)) (by first | exact (part_long (by omega)).symm | exact (part_no (i := i) (by omega) (by first | exact op_no1 (by omega) | exact op_no2 (j := j) (by omega) (by omega) | exact op_no3 (by omega) (by omega))).symm), hs⟩
                · -- decide ((k : Int) ≤ (((l.getD i default).o5).toInt)) false
                  have p14 := of_decide_eq_false b14
                  refine wpS_skip ?_
                  refine blockS_n ?_
                  refine thenS_n ?_
                  refine wpS_region ?_
                  refine s_y (v := .int .i64 ((((i + 1) : Nat) : Int))) (y_add (a := ((i : Nat) : Int)) (b := 1) (c := (((i + 1) : Nat) : Int)) h14_8 rfl (wI (by omega) (by omega) (by omega))) rfl ?_
                  refine s_y (v := .int .i64 ((((i + 1) : Nat) : Int))) (y_move rfl) rfl ?_
                  refine wpL_nil ?_
                  refine thenS_n ?_
                  exact ⟨_, by omega, ⟨(i + 1), rfl, by omega, (all_step (by omega) (by assumption) (op_yes (j := j) (by omega) (by omega) (by omega) (by assumption) (by omega))), rfl, h1_8, h12_8, h13_8, rfl, .nil⟩⟩
    · -- decide (i < gn) false
      have p3 := of_decide_eq_false b3
      refine wpS_exit ?_
      refine thenS_x ?_
      refine thenS_x ?_
      refine blockS_h ?_
      refine thenS_n ?_
      refine wpS_seq ?_
      refine wpS_region ?_
      refine s_y (v := .bool true) (y_assign rfl) rfl ?_
      refine wpL_nil ?_
      refine thenS_n ?_
      refine wpS_ret ?_
      refine scopeS_r ?_
      refine fin1 (v := .bool true) (.inr rfl) (.nil) Try.results174 rfl ?_
      exact fun w' hs => ⟨congrArg (fun b : Bool => Ending.returned (.bool b)) ((part_yes (i := i) (by omega) (by omega) (by assumption)).symm), hs⟩

theorem check_c (k : Int) (a1 a2 a3 : Option Addr) (n1 c1 n2 c2 n3 c3 : Nat) (l1 l2 l3 : List Opc) (w : World) (hn1 : l1.length = n1) (hr1 : Rds w a1 (l1.flatMap opcV)) (hb1 : n1 ≤ 1000000) (hn2 : l2.length = n2) (hr2 : Rds w a2 (l2.flatMap opcV)) (hb2 : n2 ≤ 1000000) (hn3 : l3.length = n3) (hr3 : Rds w a3 (l3.flatMap opcV)) (hb3 : n3 ≤ 1000000) : Pure Try.prog 84 #[.agg #[.int .i64 k, .slice a1 n1 c1, .slice a2 n2 c2, .slice a3 n3 c3]] w (.int .i64 (chk11 k l1 l2 l3)) := by
  refine calls_S (n := 31) (σ0 := (upd fr0 0 (.agg #[.int .i64 k, .slice a1 n1 c1, .slice a2 n2 c2, .slice a3 n3 c3]))) (D := []) (A := []) Try.func84 rfl Try.ntmps84 rfl (a1_fr _) (SH.start w) ?_
  refine wpS_seq ?_
  refine wpS_region ?_
  refine s_e rfl ?_
  refine e_box (v := .agg #[.int .i64 k, .slice a1 n1 c1, .slice a2 n2 c2, .slice a3 n3 c3]) (l := [.int .i64 k, .slice a1 n1 c1, .slice a2 n2 c2, .slice a3 n3 c3]) rfl rfl ?_
  intro b_1
  refine s_y (v := .int .i64 0) (y_assign rfl) rfl ?_
  refine wpL_nil ?_
  refine thenS_n ?_
  refine wpS_seq ?_
  refine wpS_seq ?_
  refine wpS_region ?_
  refine s_y (v := .pointer (some ⟨b_1, 0, none⟩)) (y_fieldAddr (o' := 0) rfl Try.underlying84 rfl Try.sizeOf3 (by decide) rfl) rfl ?_
  refine s_y (v := .int .i64 k) (y_load1 rfl Try.isAgg3 (own1 .h rfl)) rfl ?_
  refine s_y (v := .bool (decide ((k : Int) < 1))) (y_lss (a := k) (b := 1) rfl rfl rfl) rfl ?_
  refine s_y (v := .bool (decide ((k : Int) < 1))) (y_move rfl) rfl ?_
  rcases Bool.eq_false_or_eq_true (decide ((k : Int) < 1)) with b2 | b2
  · -- decide ((k : Int) < 1) True
    have p2 := of_decide_eq_true b2
    refine s_no rfl rfl rfl rfl (b' := decide ((k : Int) < 1)) rfl b2 ?_
    refine s_no rfl rfl rfl rfl (b' := decide ((k : Int) < 1)) rfl b2 ?_
    refine s_no rfl rfl rfl rfl (b' := decide ((k : Int) < 1)) rfl b2 ?_
    refine s_y (v := .bool true) (y_pickT (b := decide ((k : Int) < 1)) (v := .bool true) rfl b2 rfl) rfl ?_
    refine s_y (v := .bool true) (y_move rfl) rfl ?_
    refine s_no rfl rfl rfl rfl rfl rfl ?_
    refine s_no rfl rfl rfl rfl rfl rfl ?_
    refine s_no rfl rfl rfl rfl rfl rfl ?_
    refine s_no rfl rfl rfl rfl rfl rfl ?_
    refine s_no rfl rfl rfl rfl rfl rfl ?_
    refine s_no rfl rfl rfl rfl rfl rfl ?_
    refine s_y (v := .bool true) (y_pickT (v := .bool true) rfl rfl rfl) rfl ?_
    refine s_y (v := .bool true) (y_move rfl) rfl ?_
    refine s_no rfl rfl rfl rfl rfl rfl ?_
    refine s_no rfl rfl rfl rfl rfl rfl ?_
    refine s_no rfl rfl rfl rfl rfl rfl ?_
    refine s_no rfl rfl rfl rfl rfl rfl ?_
    refine s_y (v := .bool true) (y_pickT (v := .bool true) rfl rfl rfl) rfl ?_
    refine s_y (v := .bool true) (y_move rfl) rfl ?_
    refine s_no rfl rfl rfl rfl rfl rfl ?_
    refine s_no rfl rfl rfl rfl rfl rfl ?_
    refine s_no rfl rfl rfl rfl rfl rfl ?_
    refine s_no rfl rfl rfl rfl rfl rfl ?_
    refine s_y (v := .bool true) (y_pickT (v := .bool true) rfl rfl rfl) rfl ?_
    refine wpL_nil ?_
    refine thenS_n ?_
    refine wpS_cond_t rfl ?_
    refine wpS_seq ?_
    refine wpS_region ?_
    refine s_y (v := .int .i64 8) (y_assign rfl) rfl ?_
    refine wpL_nil ?_
    refine thenS_n ?_
    refine wpS_ret ?_
    refine thenS_r ?_
    refine fin1 (v := .int .i64 8) (.inr rfl) (.nil) Try.results84 rfl ?_
    exact fun w' hs => ⟨congrArg (fun z : Int => Ending.returned (.int .i64 z)) ((chk_8 (by first | exact chk_n0 (by omega) | exact chk_n1 (by assumption) | exact chk_n2 (by assumption) | exact chk_n3 (by assumption))).symm), hs⟩
  · -- decide ((k : Int) < 1) False
    have p2 := of_decide_eq_false b2
    refine s_gy (y_fieldAddr (o' := 0) rfl Try.underlying84 rfl Try.sizeOf3 (by decide) rfl) rfl rfl rfl rfl (b' := decide ((k : Int) < 1)) rfl b2 ?_
    refine s_gy (y_load1 rfl Try.isAgg3 (own1 .h rfl)) rfl rfl rfl rfl (b' := decide ((k : Int) < 1)) rfl b2 ?_
    refine s_gy (y_gtr (a := k) (b := 4) rfl rfl rfl) rfl rfl rfl rfl (b' := decide ((k : Int) < 1)) rfl b2 ?_
    refine s_y (v := .bool (decide ((4 : Int) < k))) (y_pickF (b := decide ((k : Int) < 1)) (v := .bool (decide ((4 : Int) < k))) rfl b2 rfl) rfl ?_
    refine s_y (v := .bool (decide ((4 : Int) < k))) (y_move rfl) rfl ?_
    rcases Bool.eq_false_or_eq_true (decide ((4 : Int) < k)) with b3 | b3
    · -- decide ((4 : Int) < k) True
      have p3 := of_decide_eq_true b3
      refine s_no rfl rfl rfl rfl (b' := decide ((4 : Int) < k)) rfl b3 ?_
      refine s_no rfl rfl rfl rfl (b' := decide ((4 : Int) < k)) rfl b3 ?_
      refine s_no rfl rfl rfl rfl (b' := decide ((4 : Int) < k)) rfl b3 ?_
      refine s_no rfl rfl rfl rfl (b' := decide ((4 : Int) < k)) rfl b3 ?_
      refine s_no rfl rfl rfl rfl (b' := decide ((4 : Int) < k)) rfl b3 ?_
      refine s_no rfl rfl rfl rfl (b' := decide ((4 : Int) < k)) rfl b3 ?_
      refine s_y (v := .bool true) (y_pickT (b := decide ((4 : Int) < k)) (v := .bool true) rfl b3 rfl) rfl ?_
      refine s_y (v := .bool true) (y_move rfl) rfl ?_
      refine s_no rfl rfl rfl rfl rfl rfl ?_
      refine s_no rfl rfl rfl rfl rfl rfl ?_
      refine s_no rfl rfl rfl rfl rfl rfl ?_
      refine s_no rfl rfl rfl rfl rfl rfl ?_
      refine s_y (v := .bool true) (y_pickT (v := .bool true) rfl rfl rfl) rfl ?_
      refine s_y (v := .bool true) (y_move rfl) rfl ?_
      refine s_no rfl rfl rfl rfl rfl rfl ?_
      refine s_no rfl rfl rfl rfl rfl rfl ?_
      refine s_no rfl rfl rfl rfl rfl rfl ?_
      refine s_no rfl rfl rfl rfl rfl rfl ?_
      refine s_y (v := .bool true) (y_pickT (v := .bool true) rfl rfl rfl) rfl ?_
      refine wpL_nil ?_
      refine thenS_n ?_
      refine wpS_cond_t rfl ?_
      refine wpS_seq ?_
      refine wpS_region ?_
      refine s_y (v := .int .i64 8) (y_assign rfl) rfl ?_
      refine wpL_nil ?_
      refine thenS_n ?_
      refine wpS_ret ?_
      refine thenS_r ?_
      refine fin1 (v := .int .i64 8) (.inr rfl) (.nil) Try.results84 rfl ?_
      exact fun w' hs => ⟨congrArg (fun z : Int => Ending.returned (.int .i64 z)) ((chk_8 (by first | exact chk_n0 (by omega) | exact chk_n1 (by assumption) | exact chk_n2 (by assumption) | exact chk_n3 (by assumption))).symm), hs⟩
    · -- decide ((4 : Int) < k) False
      have p3 := of_decide_eq_false b3
      refine s_gy (y_fieldAddr (o' := 1) rfl Try.underlying84 rfl Try.sizeOf82 (by decide) rfl) rfl rfl rfl rfl (b' := decide ((4 : Int) < k)) rfl b3 ?_
      refine s_gy (y_load1 rfl Try.isAgg82 (own1 .h rfl)) rfl rfl rfl rfl (b' := decide ((4 : Int) < k)) rfl b3 ?_
      refine s_gy (y_fieldAddr (o' := 0) rfl Try.underlying84 rfl Try.sizeOf3 (by decide) rfl) rfl rfl rfl rfl (b' := decide ((4 : Int) < k)) rfl b3 ?_
      refine s_gy (y_load1 rfl Try.isAgg3 (own1 .h rfl)) rfl rfl rfl rfl (b' := decide ((4 : Int) < k)) rfl b3 ?_
      refine s_gy (y_call (args := #[.slice a1 n1 c1, .int .i64 k]) (v := .bool (partOk k l1)) Try.call174 (ev2 rfl rfl) (fun w hs => part_c a1 n1 c1 l1 k w hn1 ((oldR hr1) w hs) (by omega))) rfl rfl rfl rfl (b' := decide ((4 : Int) < k)) rfl b3 ?_
      refine s_gy (y_not (b := partOk k l1) rfl) rfl rfl rfl rfl (b' := decide ((4 : Int) < k)) rfl b3 ?_
      refine s_y (v := .bool (!(partOk k l1))) (y_pickF (b := decide ((4 : Int) < k)) (v := .bool (!(partOk k l1))) rfl b3 rfl) rfl ?_
      refine s_y (v := .bool (!(partOk k l1))) (y_move rfl) rfl ?_
      rcases Bool.eq_false_or_eq_true (!(partOk k l1)) with b4 | b4
      · -- !(partOk k l1) True
        have b5 : (partOk k l1) = false := by simpa using b4
        refine s_no rfl rfl rfl rfl (b' := !(partOk k l1)) rfl b4 ?_
        refine s_no rfl rfl rfl rfl (b' := !(partOk k l1)) rfl b4 ?_
        refine s_no rfl rfl rfl rfl (b' := !(partOk k l1)) rfl b4 ?_
        refine s_no rfl rfl rfl rfl (b' := !(partOk k l1)) rfl b4 ?_
        refine s_y (v := .bool true) (y_pickT (b := !(partOk k l1)) (v := .bool true) rfl b4 rfl) rfl ?_
        refine s_y (v := .bool true) (y_move rfl) rfl ?_
        refine s_no rfl rfl rfl rfl rfl rfl ?_
        refine s_no rfl rfl rfl rfl rfl rfl ?_
        refine s_no rfl rfl rfl rfl rfl rfl ?_
        refine s_no rfl rfl rfl rfl rfl rfl ?_
        refine s_y (v := .bool true) (y_pickT (v := .bool true) rfl rfl rfl) rfl ?_
        refine wpL_nil ?_
        refine thenS_n ?_
        refine wpS_cond_t rfl ?_
        refine wpS_seq ?_
        refine wpS_region ?_
        refine s_y (v := .int .i64 8) (y_assign rfl) rfl ?_
        refine wpL_nil ?_
        refine thenS_n ?_
        refine wpS_ret ?_
        refine thenS_r ?_
        refine fin1 (v := .int .i64 8) (.inr rfl) (.nil) Try.results84 rfl ?_
        exact fun w' hs => ⟨congrArg (fun z : Int => Ending.returned (.int .i64 z)) ((chk_8 (by first | exact chk_n0 (by omega) | exact chk_n1 (by assumption) | exact chk_n2 (by assumption) | exact chk_n3 (by assumption))).symm), hs⟩
      · -- !(partOk k l1) False
        have b6 : (partOk k l1) = true := by simpa using b4
        refine s_gy (y_fieldAddr (o' := 2) rfl Try.underlying84 rfl Try.sizeOf82 (by decide) rfl) rfl rfl rfl rfl (b' := !(partOk k l1)) rfl b4 ?_
        refine s_gy (y_load1 rfl Try.isAgg82 (own1 .h rfl)) rfl rfl rfl rfl (b' := !(partOk k l1)) rfl b4 ?_
        refine s_gy (y_call (args := #[.slice a2 n2 c2, .int .i64 0]) (v := .bool (partOk 0 l2)) Try.call174 (ev2 rfl rfl) (fun w hs => part_c a2 n2 c2 l2 0 w hn2 ((oldR hr2) w hs) (by omega))) rfl rfl rfl rfl (b' := !(partOk k l1)) rfl b4 ?_
        refine s_gy (y_not (b := partOk 0 l2) rfl) rfl rfl rfl rfl (b' := !(partOk k l1)) rfl b4 ?_
        refine s_y (v := .bool (!(partOk 0 l2))) (y_pickF (b := !(partOk k l1)) (v := .bool (!(partOk 0 l2))) rfl b4 rfl) rfl ?_
        refine s_y (v := .bool (!(partOk 0 l2))) (y_move rfl) rfl ?_
        rcases Bool.eq_false_or_eq_true (!(partOk 0 l2)) with b7 | b7
        · -- !(partOk 0 l2) True
          have b8 : (partOk 0 l2) = false := by simpa using b7
          refine s_no rfl rfl rfl rfl (b' := !(partOk 0 l2)) rfl b7 ?_
          refine s_no rfl rfl rfl rfl (b' := !(partOk 0 l2)) rfl b7 ?_
          refine s_no rfl rfl rfl rfl (b' := !(partOk 0 l2)) rfl b7 ?_
          refine s_no rfl rfl rfl rfl (b' := !(partOk 0 l2)) rfl b7 ?_
          refine s_y (v := .bool true) (y_pickT (b := !(partOk 0 l2)) (v := .bool true) rfl b7 rfl) rfl ?_
          refine wpL_nil ?_
          refine thenS_n ?_
          refine wpS_cond_t rfl ?_
          refine wpS_seq ?_
          refine wpS_region ?_
          refine s_y (v := .int .i64 8) (y_assign rfl) rfl ?_
          refine wpL_nil ?_
          refine thenS_n ?_
          refine wpS_ret ?_
          refine thenS_r ?_
          refine fin1 (v := .int .i64 8) (.inr rfl) (.nil) Try.results84 rfl ?_
          exact fun w' hs => ⟨congrArg (fun z : Int => Ending.returned (.int .i64 z)) ((chk_8 (by first | exact chk_n0 (by omega) | exact chk_n1 (by assumption) | exact chk_n2 (by assumption) | exact chk_n3 (by assumption))).symm), hs⟩
        · -- !(partOk 0 l2) False
          have b9 : (partOk 0 l2) = true := by simpa using b7
          refine s_gy (y_fieldAddr (o' := 3) rfl Try.underlying84 rfl Try.sizeOf82 (by decide) rfl) rfl rfl rfl rfl (b' := !(partOk 0 l2)) rfl b7 ?_
          refine s_gy (y_load1 rfl Try.isAgg82 (own1 .h rfl)) rfl rfl rfl rfl (b' := !(partOk 0 l2)) rfl b7 ?_
          refine s_gy (y_call (args := #[.slice a3 n3 c3, .int .i64 0]) (v := .bool (partOk 0 l3)) Try.call174 (ev2 rfl rfl) (fun w hs => part_c a3 n3 c3 l3 0 w hn3 ((oldR hr3) w hs) (by omega))) rfl rfl rfl rfl (b' := !(partOk 0 l2)) rfl b7 ?_
          refine s_gy (y_not (b := partOk 0 l3) rfl) rfl rfl rfl rfl (b' := !(partOk 0 l2)) rfl b7 ?_
          refine s_y (v := .bool (!(partOk 0 l3))) (y_pickF (b := !(partOk 0 l2)) (v := .bool (!(partOk 0 l3))) rfl b7 rfl) rfl ?_
          refine wpL_nil ?_
          refine thenS_n ?_
          refine wpS_cond (t := !(partOk 0 l3)) rfl (fun b10 => ?_) (fun b10 => ?_)
          · -- !(partOk 0 l3) true
            have b11 : (partOk 0 l3) = false := by simpa using b10
            refine wpS_seq ?_
            refine wpS_region ?_
            refine s_y (v := .int .i64 8) (y_assign rfl) rfl ?_
            refine wpL_nil ?_
            refine thenS_n ?_
            refine wpS_ret ?_
            refine thenS_r ?_
            refine fin1 (v := .int .i64 8) (.inr rfl) (.nil) Try.results84 rfl ?_
            exact fun w' hs => ⟨congrArg (fun z : Int => Ending.returned (.int .i64 z)) ((chk_8 (by first | exact chk_n0 (by omega) | exact chk_n1 (by assumption) | exact chk_n2 (by assumption) | exact chk_n3 (by assumption))).symm), hs⟩
          · -- !(partOk 0 l3) false
            have b12 : (partOk 0 l3) = true := by simpa using b10
            refine wpS_skip ?_
            refine thenS_n ?_
            refine wpS_seq ?_
            refine wpS_region ?_
            refine s_y (v := .int .i64 0) (y_assign rfl) rfl ?_
            refine wpL_nil ?_
            refine thenS_n ?_
            refine wpS_ret ?_
            refine fin1 (v := .int .i64 0) (.inr rfl) (.nil) Try.results84 rfl ?_
            exact fun w' hs => ⟨congrArg (fun z : Int => Ending.returned (.int .i64 z)) ((chk_0 (chk_all (by omega) (by omega) (by assumption) (by assumption) (by assumption))).symm), hs⟩

theorem made_c (o : Opc) (a b c : Int64) (w : World) : Pure Try.prog 227 #[.agg #[.int .i64 (o.o0), .int .i64 (o.o1), .int .i64 (o.o2), .int .i64 (o.o3), .int .i64 (o.o4), .int .i64 (o.o5.toInt)], .int .i64 (a.toInt), .int .i64 (b.toInt), .int .i64 (c.toInt)] w (.int .i64 ((madeV o a b c).toInt)) := by
  refine calls_S (n := 75) (σ0 := (upd (upd (upd (upd fr0 0 (.agg #[.int .i64 (o.o0), .int .i64 (o.o1), .int .i64 (o.o2), .int .i64 (o.o3), .int .i64 (o.o4), .int .i64 (o.o5.toInt)])) 1 (.int .i64 (a.toInt))) 2 (.int .i64 (b.toInt))) 3 (.int .i64 (c.toInt)))) (D := []) (A := []) Try.func227 rfl Try.ntmps227 rfl (a4_fr _ _ _ _) (SH.start w) ?_
  refine wpS_seq ?_
  refine wpS_region ?_
  refine s_e rfl ?_
  refine e_box (v := .agg #[.int .i64 (o.o0), .int .i64 (o.o1), .int .i64 (o.o2), .int .i64 (o.o3), .int .i64 (o.o4), .int .i64 (o.o5.toInt)]) (l := [.int .i64 (o.o0), .int .i64 (o.o1), .int .i64 (o.o2), .int .i64 (o.o3), .int .i64 (o.o4), .int .i64 (o.o5.toInt)]) rfl rfl ?_
  intro b_1
  refine s_y (v := .int .i64 0) (y_assign rfl) rfl ?_
  refine wpL_nil ?_
  refine thenS_n ?_
  refine wpS_seq ?_
  refine wpS_seq ?_
  refine wpS_region ?_
  refine s_y (v := .pointer (some ⟨b_1, 0, none⟩)) (y_fieldAddr (o' := 0) rfl Try.underlying86 rfl Try.sizeOf3 (by decide) rfl) rfl ?_
  refine s_y (v := .int .i64 (o.o0)) (y_load1 rfl Try.isAgg3 (own1 .h rfl)) rfl ?_
  refine wpL_nil ?_
  refine thenS_n ?_
  refine wpS_block ?_
  refine wpS_seq ?_
  refine wpS_region ?_
  refine s_y (v := .bool (decide ((o.o0 : Int) = 1))) (y_eql (a := o.o0) (b := 1) rfl rfl rfl) rfl ?_
  refine s_y (v := .bool (decide ((o.o0 : Int) = 1))) (y_assign rfl) rfl ?_
  refine wpL_nil ?_
  refine thenS_n ?_
  refine wpS_cond (t := decide ((o.o0 : Int) = 1)) rfl (fun b2 => ?_) (fun b2 => ?_)
  · -- decide ((o.o0 : Int) = 1) true
    have p2 := of_decide_eq_true b2
    refine wpS_seq ?_
    refine wpS_region ?_
    refine s_y (v := .pointer (some ⟨b_1, 5, none⟩)) (y_fieldAddr (o' := 5) rfl Try.underlying86 rfl Try.sizeOf2 (by decide) rfl) rfl ?_
    refine s_y (v := .int .i64 (o.o5.toInt)) (y_load1 rfl Try.isAgg2 (own1 .h rfl)) rfl ?_
    refine s_y (v := .int .i64 (o.o5.toInt)) (y_assign rfl) rfl ?_
    refine wpL_nil ?_
    refine thenS_n ?_
    refine wpS_ret ?_
    refine blockS_r ?_
    refine thenS_r ?_
    refine fin1 (M := []) (v := .int .i64 (o.o5.toInt)) (.inr rfl) (.nil) Try.results227 rfl ?_
    exact fun w' hs => ⟨congrArg (fun z : Int64 => Ending.returned (.int .i64 z.toInt)) (by unfold madeV; simp [*, one_less, one_same, pick64]), hs⟩
  · -- decide ((o.o0 : Int) = 1) false
    have p2 := of_decide_eq_false b2
    refine wpS_seq ?_
    refine wpS_region ?_
    refine s_y (v := .bool (decide ((o.o0 : Int) = 2))) (y_eql (a := o.o0) (b := 2) rfl rfl rfl) rfl ?_
    refine s_y (v := .bool (decide ((o.o0 : Int) = 2))) (y_assign rfl) rfl ?_
    refine wpL_nil ?_
    refine thenS_n ?_
    refine wpS_cond (t := decide ((o.o0 : Int) = 2)) rfl (fun b3 => ?_) (fun b3 => ?_)
    · -- decide ((o.o0 : Int) = 2) true
      have p3 := of_decide_eq_true b3
      refine wpS_seq ?_
      refine wpS_region ?_
      refine s_y (v := .int .i64 (a.toInt)) (y_move rfl) rfl ?_
      refine s_y (v := .int .i64 (b.toInt)) (y_move rfl) rfl ?_
      refine s_y (v := .int .i64 (((a + b)).toInt)) (y_add (a := a.toInt) (b := b.toInt) (c := ((a + b)).toInt) rfl rfl (i_add _ _)) rfl ?_
      refine s_y (v := .int .i64 (((a + b)).toInt)) (y_assign rfl) rfl ?_
      refine wpL_nil ?_
      refine thenS_n ?_
      refine wpS_ret ?_
      refine blockS_r ?_
      refine thenS_r ?_
      refine fin1 (M := []) (v := .int .i64 (((a + b)).toInt)) (.inr rfl) (.nil) Try.results227 rfl ?_
      exact fun w' hs => ⟨congrArg (fun z : Int64 => Ending.returned (.int .i64 z.toInt)) (by unfold madeV; simp [*, one_less, one_same, pick64]), hs⟩
    · -- decide ((o.o0 : Int) = 2) false
      have p3 := of_decide_eq_false b3
      refine wpS_seq ?_
      refine wpS_region ?_
      refine s_y (v := .bool (decide ((o.o0 : Int) = 3))) (y_eql (a := o.o0) (b := 3) rfl rfl rfl) rfl ?_
      refine s_y (v := .bool (decide ((o.o0 : Int) = 3))) (y_assign rfl) rfl ?_
      refine wpL_nil ?_
      refine thenS_n ?_
      refine wpS_cond (t := decide ((o.o0 : Int) = 3)) rfl (fun b4 => ?_) (fun b4 => ?_)
      · -- decide ((o.o0 : Int) = 3) true
        have p4 := of_decide_eq_true b4
        refine wpS_seq ?_
        refine wpS_region ?_
        refine s_y (v := .int .i64 (a.toInt)) (y_move rfl) rfl ?_
        refine s_y (v := .int .i64 (b.toInt)) (y_move rfl) rfl ?_
        refine s_y (v := .int .i64 (((a - b)).toInt)) (y_sub (a := a.toInt) (b := b.toInt) (c := ((a - b)).toInt) rfl rfl (i_sub _ _)) rfl ?_
        refine s_y (v := .int .i64 (((a - b)).toInt)) (y_assign rfl) rfl ?_
        refine wpL_nil ?_
        refine thenS_n ?_
        refine wpS_ret ?_
        refine blockS_r ?_
        refine thenS_r ?_
        refine fin1 (M := []) (v := .int .i64 (((a - b)).toInt)) (.inr rfl) (.nil) Try.results227 rfl ?_
        exact fun w' hs => ⟨congrArg (fun z : Int64 => Ending.returned (.int .i64 z.toInt)) (by unfold madeV; simp [*, one_less, one_same, pick64]), hs⟩
      · -- decide ((o.o0 : Int) = 3) false
        have p4 := of_decide_eq_false b4
        refine wpS_seq ?_
        refine wpS_region ?_
        refine s_y (v := .bool (decide ((o.o0 : Int) = 4))) (y_eql (a := o.o0) (b := 4) rfl rfl rfl) rfl ?_
        refine s_y (v := .bool (decide ((o.o0 : Int) = 4))) (y_assign rfl) rfl ?_
        refine wpL_nil ?_
        refine thenS_n ?_
        refine wpS_cond (t := decide ((o.o0 : Int) = 4)) rfl (fun b5 => ?_) (fun b5 => ?_)
        · -- decide ((o.o0 : Int) = 4) true
          have p5 := of_decide_eq_true b5
          refine wpS_seq ?_
          refine wpS_region ?_
          refine s_y (v := .int .i64 (a.toInt)) (y_move rfl) rfl ?_
          refine s_y (v := .int .i64 (b.toInt)) (y_move rfl) rfl ?_
          refine s_y (v := .int .i64 (((a * b)).toInt)) (y_mul (a := a.toInt) (b := b.toInt) (c := ((a * b)).toInt) rfl rfl (i_mul _ _)) rfl ?_
          refine s_y (v := .int .i64 (((a * b)).toInt)) (y_assign rfl) rfl ?_
          refine wpL_nil ?_
          refine thenS_n ?_
          refine wpS_ret ?_
          refine blockS_r ?_
          refine thenS_r ?_
          refine fin1 (M := []) (v := .int .i64 (((a * b)).toInt)) (.inr rfl) (.nil) Try.results227 rfl ?_
          exact fun w' hs => ⟨congrArg (fun z : Int64 => Ending.returned (.int .i64 z.toInt)) (by unfold madeV; simp [*, one_less, one_same, pick64]), hs⟩
        · -- decide ((o.o0 : Int) = 4) false
          have p5 := of_decide_eq_false b5
          refine wpS_seq ?_
          refine wpS_region ?_
          refine s_y (v := .bool (decide ((o.o0 : Int) = 5))) (y_eql (a := o.o0) (b := 5) rfl rfl rfl) rfl ?_
          refine s_y (v := .bool (decide ((o.o0 : Int) = 5))) (y_assign rfl) rfl ?_
          refine wpL_nil ?_
          refine thenS_n ?_
          refine wpS_cond (t := decide ((o.o0 : Int) = 5)) rfl (fun b6 => ?_) (fun b6 => ?_)
          · -- decide ((o.o0 : Int) = 5) true
            have p6 := of_decide_eq_true b6
            refine wpS_seq ?_
            refine wpS_region ?_
            refine s_y (v := .int .i64 (a.toInt)) (y_move rfl) rfl ?_
            refine s_y (v := .int .i64 (b.toInt)) (y_move rfl) rfl ?_
            refine s_y (v := .int .i64 (((a &&& b)).toInt)) (y_and (a := a.toInt) (b := b.toInt) (c := ((a &&& b)).toInt) rfl rfl (i_and _ _)) rfl ?_
            refine s_y (v := .int .i64 (((a &&& b)).toInt)) (y_assign rfl) rfl ?_
            refine wpL_nil ?_
            refine thenS_n ?_
            refine wpS_ret ?_
            refine blockS_r ?_
            refine thenS_r ?_
            refine fin1 (M := []) (v := .int .i64 (((a &&& b)).toInt)) (.inr rfl) (.nil) Try.results227 rfl ?_
            exact fun w' hs => ⟨congrArg (fun z : Int64 => Ending.returned (.int .i64 z.toInt)) (by unfold madeV; simp [*, one_less, one_same, pick64]), hs⟩
          · -- decide ((o.o0 : Int) = 5) false
            have p6 := of_decide_eq_false b6
            refine wpS_seq ?_
            refine wpS_region ?_
            refine s_y (v := .bool (decide ((o.o0 : Int) = 6))) (y_eql (a := o.o0) (b := 6) rfl rfl rfl) rfl ?_
            refine s_y (v := .bool (decide ((o.o0 : Int) = 6))) (y_assign rfl) rfl ?_
            refine wpL_nil ?_
            refine thenS_n ?_
            refine wpS_cond (t := decide ((o.o0 : Int) = 6)) rfl (fun b7 => ?_) (fun b7 => ?_)
            · -- decide ((o.o0 : Int) = 6) true
              have p7 := of_decide_eq_true b7
              refine wpS_seq ?_
              refine wpS_region ?_
              refine s_y (v := .int .i64 (a.toInt)) (y_move rfl) rfl ?_
              refine s_y (v := .int .i64 (b.toInt)) (y_move rfl) rfl ?_
              refine s_y (v := .int .i64 (((a ||| b)).toInt)) (y_or (a := a.toInt) (b := b.toInt) (c := ((a ||| b)).toInt) rfl rfl (i_or _ _)) rfl ?_
              refine s_y (v := .int .i64 (((a ||| b)).toInt)) (y_assign rfl) rfl ?_
              refine wpL_nil ?_
              refine thenS_n ?_
              refine wpS_ret ?_
              refine blockS_r ?_
              refine thenS_r ?_
              refine fin1 (M := []) (v := .int .i64 (((a ||| b)).toInt)) (.inr rfl) (.nil) Try.results227 rfl ?_
              exact fun w' hs => ⟨congrArg (fun z : Int64 => Ending.returned (.int .i64 z.toInt)) (by unfold madeV; simp [*, one_less, one_same, pick64]), hs⟩
            · -- decide ((o.o0 : Int) = 6) false
              have p7 := of_decide_eq_false b7
              refine wpS_seq ?_
              refine wpS_region ?_
              refine s_y (v := .bool (decide ((o.o0 : Int) = 7))) (y_eql (a := o.o0) (b := 7) rfl rfl rfl) rfl ?_
              refine s_y (v := .bool (decide ((o.o0 : Int) = 7))) (y_assign rfl) rfl ?_
              refine wpL_nil ?_
              refine thenS_n ?_
              refine wpS_cond (t := decide ((o.o0 : Int) = 7)) rfl (fun b8 => ?_) (fun b8 => ?_)
              · -- decide ((o.o0 : Int) = 7) true
                have p8 := of_decide_eq_true b8
                refine wpS_seq ?_
                refine wpS_region ?_
                refine s_y (v := .int .i64 (a.toInt)) (y_move rfl) rfl ?_
                refine s_y (v := .int .i64 (b.toInt)) (y_move rfl) rfl ?_
                refine s_y (v := .int .i64 (((a ^^^ b)).toInt)) (y_xor (a := a.toInt) (b := b.toInt) (c := ((a ^^^ b)).toInt) rfl rfl (i_xor _ _)) rfl ?_
                refine s_y (v := .int .i64 (((a ^^^ b)).toInt)) (y_assign rfl) rfl ?_
                refine wpL_nil ?_
                refine thenS_n ?_
                refine wpS_ret ?_
                refine blockS_r ?_
                refine thenS_r ?_
                refine fin1 (M := []) (v := .int .i64 (((a ^^^ b)).toInt)) (.inr rfl) (.nil) Try.results227 rfl ?_
                exact fun w' hs => ⟨congrArg (fun z : Int64 => Ending.returned (.int .i64 z.toInt)) (by unfold madeV; simp [*, one_less, one_same, pick64]), hs⟩
              · -- decide ((o.o0 : Int) = 7) false
                have p8 := of_decide_eq_false b8
                refine wpS_seq ?_
                refine wpS_region ?_
                refine s_y (v := .bool (decide ((o.o0 : Int) = 8))) (y_eql (a := o.o0) (b := 8) rfl rfl rfl) rfl ?_
                refine s_y (v := .bool (decide ((o.o0 : Int) = 8))) (y_assign rfl) rfl ?_
                refine wpL_nil ?_
                refine thenS_n ?_
                refine wpS_cond (t := decide ((o.o0 : Int) = 8)) rfl (fun b9 => ?_) (fun b9 => ?_)
                · -- decide ((o.o0 : Int) = 8) true
                  have p9 := of_decide_eq_true b9
                  refine wpS_seq ?_
                  refine wpS_region ?_
                  refine s_y (v := .int .i64 (a.toInt)) (y_move rfl) rfl ?_
                  refine s_y (v := .int .i64 (b.toInt)) (y_move rfl) rfl ?_
                  refine s_y (v := .int .u64 ((b64 (decide (a < b))).toNat)) (y_call (args := #[.int .i64 (a.toInt), .int .i64 (b.toInt)]) (v := .int .u64 ((b64 (decide (a < b))).toNat)) Try.call144 (ev2 rfl rfl) (fun w hs => below_c a b w)) rfl ?_
                  refine s_y (v := .int .i64 (((b64 (decide (a < b))).toInt64).toInt)) (y_convI (a := (b64 (decide (a < b))).toNat) (c := ((b64 (decide (a < b))).toInt64).toInt) rfl Try.underlying24 Try.underlying2 (ui_conv _)) rfl ?_
                  refine s_y (v := .int .i64 (((b64 (decide (a < b))).toInt64).toInt)) (y_assign rfl) rfl ?_
                  refine wpL_nil ?_
                  refine thenS_n ?_
                  refine wpS_ret ?_
                  refine blockS_r ?_
                  refine thenS_r ?_
                  refine fin1 (M := []) (v := .int .i64 (((b64 (decide (a < b))).toInt64).toInt)) (.inr rfl) (.nil) Try.results227 rfl ?_
                  exact fun w' hs => ⟨congrArg (fun z : Int64 => Ending.returned (.int .i64 z.toInt)) (by unfold madeV; simp [*, one_less, one_same, pick64]), hs⟩
                · -- decide ((o.o0 : Int) = 8) false
                  have p9 := of_decide_eq_false b9
                  refine wpS_seq ?_
                  refine wpS_region ?_
                  refine s_y (v := .bool (decide ((o.o0 : Int) = 9))) (y_eql (a := o.o0) (b := 9) rfl rfl rfl) rfl ?_
                  refine s_y (v := .bool (decide ((o.o0 : Int) = 9))) (y_assign rfl) rfl ?_
                  refine wpL_nil ?_
                  refine thenS_n ?_
                  refine wpS_cond (t := decide ((o.o0 : Int) = 9)) rfl (fun b10 => ?_) (fun b10 => ?_)
                  · -- decide ((o.o0 : Int) = 9) true
                    have p10 := of_decide_eq_true b10
                    refine wpS_seq ?_
                    refine wpS_region ?_
                    refine s_y (v := .int .i64 (a.toInt)) (y_move rfl) rfl ?_
                    refine s_y (v := .int .u64 ((a.toUInt64).toNat)) (y_convI (a := a.toInt) (c := (a.toUInt64).toNat) rfl Try.underlying2 Try.underlying24 (iu_conv _)) rfl ?_
                    refine s_y (v := .int .i64 (b.toInt)) (y_move rfl) rfl ?_
                    refine s_y (v := .int .u64 ((b.toUInt64).toNat)) (y_convI (a := b.toInt) (c := (b.toUInt64).toNat) rfl Try.underlying2 Try.underlying24 (iu_conv _)) rfl ?_
                    refine s_y (v := .int .u64 ((b64 (decide (a.toUInt64 = b.toUInt64))).toNat)) (y_call (args := #[.int .u64 ((a.toUInt64).toNat), .int .u64 ((b.toUInt64).toNat)]) (v := .int .u64 ((b64 (decide (a.toUInt64 = b.toUInt64))).toNat)) Try.call143 (ev2 rfl rfl) (fun w hs => same_c a.toUInt64 b.toUInt64 w)) rfl ?_
                    refine s_y (v := .int .i64 (((b64 (decide (a.toUInt64 = b.toUInt64))).toInt64).toInt)) (y_convI (a := (b64 (decide (a.toUInt64 = b.toUInt64))).toNat) (c := ((b64 (decide (a.toUInt64 = b.toUInt64))).toInt64).toInt) rfl Try.underlying24 Try.underlying2 (ui_conv _)) rfl ?_
                    refine s_y (v := .int .i64 (((b64 (decide (a.toUInt64 = b.toUInt64))).toInt64).toInt)) (y_assign rfl) rfl ?_
                    refine wpL_nil ?_
                    refine thenS_n ?_
                    refine wpS_ret ?_
                    refine blockS_r ?_
                    refine thenS_r ?_
                    refine fin1 (M := []) (v := .int .i64 (((b64 (decide (a.toUInt64 = b.toUInt64))).toInt64).toInt)) (.inr rfl) (.nil) Try.results227 rfl ?_
                    exact fun w' hs => ⟨congrArg (fun z : Int64 => Ending.returned (.int .i64 z.toInt)) (by unfold madeV; simp [*, one_less, one_same, pick64]), hs⟩
                  · -- decide ((o.o0 : Int) = 9) false
                    have p10 := of_decide_eq_false b10
                    refine wpS_seq ?_
                    refine wpS_region ?_
                    refine s_y (v := .bool (decide ((o.o0 : Int) = 10))) (y_eql (a := o.o0) (b := 10) rfl rfl rfl) rfl ?_
                    refine s_y (v := .bool (decide ((o.o0 : Int) = 10))) (y_assign rfl) rfl ?_
                    refine wpL_nil ?_
                    refine thenS_n ?_
                    refine wpS_cond (t := decide ((o.o0 : Int) = 10)) rfl (fun b11 => ?_) (fun b11 => ?_)
                    · -- decide ((o.o0 : Int) = 10) true
                      have p11 := of_decide_eq_true b11
                      refine wpS_seq ?_
                      refine wpS_region ?_
                      refine s_y (v := .int .i64 (a.toInt)) (y_move rfl) rfl ?_
                      refine s_y (v := .int .u64 ((a.toUInt64).toNat)) (y_convI (a := a.toInt) (c := (a.toUInt64).toNat) rfl Try.underlying2 Try.underlying24 (iu_conv _)) rfl ?_
                      refine s_y (v := .int .u64 ((b64 (decide (a.toUInt64 = 0))).toNat)) (y_call (args := #[.int .u64 ((a.toUInt64).toNat), .int .u64 0]) (v := .int .u64 ((b64 (decide (a.toUInt64 = 0))).toNat)) Try.call143 (ev2 rfl rfl) (fun w hs => same_c a.toUInt64 0 w)) rfl ?_
                      refine s_y (v := .int .i64 (c.toInt)) (y_move rfl) rfl ?_
                      refine s_y (v := .int .u64 ((c.toUInt64).toNat)) (y_convI (a := c.toInt) (c := (c.toUInt64).toNat) rfl Try.underlying2 Try.underlying24 (iu_conv _)) rfl ?_
                      refine s_y (v := .int .i64 (b.toInt)) (y_move rfl) rfl ?_
                      refine s_y (v := .int .u64 ((b.toUInt64).toNat)) (y_convI (a := b.toInt) (c := (b.toUInt64).toNat) rfl Try.underlying2 Try.underlying24 (iu_conv _)) rfl ?_
                      refine s_y (v := .int .u64 (((if (b64 (decide (a.toUInt64 = 0))) &&& 1 = 1 then c.toUInt64 else b.toUInt64)).toNat)) (y_call (args := #[.int .u64 ((b64 (decide (a.toUInt64 = 0))).toNat), .int .u64 ((c.toUInt64).toNat), .int .u64 ((b.toUInt64).toNat)]) (v := .int .u64 (((if (b64 (decide (a.toUInt64 = 0))) &&& 1 = 1 then c.toUInt64 else b.toUInt64)).toNat)) Try.call147 (ev3 rfl rfl rfl) (fun w hs => ctpick_c (b64 (decide (a.toUInt64 = 0))) c.toUInt64 b.toUInt64 w)) rfl ?_
                      refine s_y (v := .int .i64 (((if (b64 (decide (a.toUInt64 = 0))) &&& 1 = 1 then c.toUInt64 else b.toUInt64).toInt64).toInt)) (y_convI (a := ((if (b64 (decide (a.toUInt64 = 0))) &&& 1 = 1 then c.toUInt64 else b.toUInt64)).toNat) (c := ((if (b64 (decide (a.toUInt64 = 0))) &&& 1 = 1 then c.toUInt64 else b.toUInt64).toInt64).toInt) rfl Try.underlying24 Try.underlying2 (ui_conv _)) rfl ?_
                      refine s_y (v := .int .i64 (((if (b64 (decide (a.toUInt64 = 0))) &&& 1 = 1 then c.toUInt64 else b.toUInt64).toInt64).toInt)) (y_assign rfl) rfl ?_
                      refine wpL_nil ?_
                      refine thenS_n ?_
                      refine wpS_ret ?_
                      refine blockS_r ?_
                      refine thenS_r ?_
                      refine fin1 (M := []) (v := .int .i64 (((if (b64 (decide (a.toUInt64 = 0))) &&& 1 = 1 then c.toUInt64 else b.toUInt64).toInt64).toInt)) (.inr rfl) (.nil) Try.results227 rfl ?_
                      exact fun w' hs => ⟨congrArg (fun z : Int64 => Ending.returned (.int .i64 z.toInt)) (by unfold madeV; simp [*, one_less, one_same, pick64]), hs⟩
                    · -- decide ((o.o0 : Int) = 10) false
                      have p11 := of_decide_eq_false b11
                      refine wpS_skip ?_
                      refine blockS_n ?_
                      refine thenS_n ?_
                      refine wpS_seq ?_
                      refine wpS_region ?_
                      refine s_y (v := .int .i64 (a.toInt)) (y_move rfl) rfl ?_
                      refine s_y (v := .int .i64 (b.toInt)) (y_move rfl) rfl ?_
                      refine s_y (v := .int .u64 ((b.toUInt64).toNat)) (y_convI (a := b.toInt) (c := (b.toUInt64).toNat) rfl Try.underlying2 Try.underlying24 (iu_conv _)) rfl ?_
                      refine s_y (v := .int .u64 (((b.toUInt64 &&& 63)).toNat)) (y_and (a := (b.toUInt64).toNat) (b := 63) (c := ((b.toUInt64 &&& 63)).toNat) rfl rfl (u_andL _ 63 (by decide))) rfl ?_
                      refine s_y (v := .int .i64 (((a >>> (b &&& 63))).toInt)) (y_shr (a := a.toInt) (b := ((b.toUInt64 &&& 63)).toNat) (c := ((a >>> (b &&& 63))).toInt) rfl rfl (by omega) (i_sar a b)) rfl ?_
                      refine s_y (v := .int .i64 (((a >>> (b &&& 63))).toInt)) (y_assign rfl) rfl ?_
                      refine wpL_nil ?_
                      refine thenS_n ?_
                      refine wpS_ret ?_
                      refine fin1 (M := []) (v := .int .i64 (((a >>> (b &&& 63))).toInt)) (.inr rfl) (.nil) Try.results227 rfl ?_
                      exact fun w' hs => ⟨congrArg (fun z : Int64 => Ending.returned (.int .i64 z.toInt)) (by unfold madeV; simp [*, one_less, one_same, pick64]), hs⟩

theorem emit1_c (v : Int64) (c : UInt64) (b : Nat) (w : World) (hc : w.cell? ⟨b, 0, none⟩ = some (.int .u64 c.toNat)) : Pure Try.prog 241 #[.int .i64 (v.toInt), .pointer (some ⟨b, 0, none⟩)] w (.int .i64 (((if c &&& 1 = 1 then 0 else v.toUInt64).toInt64).toInt)) := by
  refine calls_S (n := 9) (σ0 := (upd (upd fr0 0 (.int .i64 (v.toInt))) 1 (.pointer (some ⟨b, 0, none⟩)))) (D := []) (A := []) Try.func241 rfl Try.ntmps241 rfl (a2_fr _ _) (SH.start w) ?_
  refine wpS_seq ?_
  refine wpS_region ?_
  refine s_y (v := .int .i64 0) (y_assign rfl) rfl ?_
  refine wpL_nil ?_
  refine thenS_n ?_
  refine wpS_seq ?_
  refine wpS_region ?_
  refine s_y (v := .int .u64 (c.toNat)) (y_load1 rfl Try.isAgg24 (old1 hc (by simp))) rfl ?_
  refine s_y (v := .int .i64 (v.toInt)) (y_move rfl) rfl ?_
  refine s_y (v := .int .u64 ((v.toUInt64).toNat)) (y_convI (a := v.toInt) (c := (v.toUInt64).toNat) rfl Try.underlying2 Try.underlying24 (iu_conv _)) rfl ?_
  refine s_y (v := .int .u64 (((if c &&& 1 = 1 then 0 else v.toUInt64)).toNat)) (y_call (args := #[.int .u64 (c.toNat), .int .u64 0, .int .u64 ((v.toUInt64).toNat)]) (v := .int .u64 (((if c &&& 1 = 1 then 0 else v.toUInt64)).toNat)) Try.call147 (ev3 rfl rfl rfl) (fun w hs => ctpick_c c 0 v.toUInt64 w)) rfl ?_
  refine s_y (v := .int .i64 (((if c &&& 1 = 1 then 0 else v.toUInt64).toInt64).toInt)) (y_convI (a := ((if c &&& 1 = 1 then 0 else v.toUInt64)).toNat) (c := ((if c &&& 1 = 1 then 0 else v.toUInt64).toInt64).toInt) rfl Try.underlying24 Try.underlying2 (ui_conv _)) rfl ?_
  refine s_y (v := .int .i64 (((if c &&& 1 = 1 then 0 else v.toUInt64).toInt64).toInt)) (y_assign rfl) rfl ?_
  refine wpL_nil ?_
  refine thenS_n ?_
  refine wpS_ret ?_
  refine fin1 (M := []) (v := .int .i64 (((if c &&& 1 = 1 then 0 else v.toUInt64).toInt64).toInt)) (.inr rfl) (.nil) Try.results241 rfl ?_
  exact fun w' hs => ⟨rfl, hs⟩

theorem valsO_c (a : Option Addr) (n c : Nat) (w : World) : Makes Try.prog 225 #[.slice a n c] w [] (X := Nat) (fun x : Nat => .func (.func 240) #[] #[.pointer (some ⟨x, 0, none⟩)]) (fun x : Nat => [cel x 82 [.slice a n c]]) (fun _ => True) := by
  refine calls_S (n := 4) (σ0 := (upd fr0 0 (.slice a n c))) (D := []) (A := []) Try.func225 rfl Try.ntmps225 rfl (a1_fr _) (SH.start w) ?_
  refine wpS_seq ?_
  refine wpS_region ?_
  refine s_e rfl ?_
  refine e_box (v := .slice a n c) (l := [.slice a n c]) rfl rfl ?_
  intro b_1
  refine s_y (v := .nilFunc) (y_assign rfl) rfl ?_
  refine wpL_nil ?_
  refine thenS_n ?_
  refine wpS_seq ?_
  refine wpS_region ?_
  refine s_y (v := .func (.func 240) #[] #[.pointer (some ⟨b_1, 0, none⟩)]) (y_makeFunc (a := #[]) (b := #[.pointer (some ⟨b_1, 0, none⟩)]) ev0 (ev1 rfl)) rfl ?_
  refine s_y (v := .func (.func 240) #[] #[.pointer (some ⟨b_1, 0, none⟩)]) (y_assign rfl) rfl ?_
  refine wpL_nil ?_
  refine thenS_n ?_
  refine wpS_ret ?_
  refine fin1 (M := [cel b_1 82 [.slice a n c]]) (v := .func (.func 240) #[] #[.pointer (some ⟨b_1, 0, none⟩)]) (.inr rfl) (.p .h .nil) Try.results225 rfl ?_
  exact fun w' hs => ⟨b_1, rfl, hs, trivial⟩

theorem valsO_it (b : Nat) (a : Option Addr) (n c : Nat) (vs : List Opc) (w : World) (hb : w.cell? ⟨b, 0, none⟩ = some (.slice a n c)) (hn : vs.length = n) (hr : Rds w a (vs.flatMap opcV)) (hbn : n ≤ 1000000) : Iter Try.prog 240 #[.pointer (some ⟨b, 0, none⟩)] (fun k => #[.agg #[.int .i64 (((vs.getD k default)).o0), .int .i64 (((vs.getD k default)).o1), .int .i64 (((vs.getD k default)).o2), .int .i64 (((vs.getD k default)).o3), .int .i64 (((vs.getD k default)).o4), .int .i64 ((((vs.getD k default)).o5).toInt)]]) (n) (fun z => z = b ∨ 0 < vs.length ∧ z = aB a) w := by
  intro yv I E A hrd hI hA hY
  show Calls Try.prog 240 #[yv, .pointer (some ⟨b, 0, none⟩)] w _
  refine calls_S (n := 16) (σ0 := (upd (upd fr0 0 (yv)) 1 (.pointer (some ⟨b, 0, none⟩)))) (D := (A.flatMap Res.fp)) (A := A) Try.func240 rfl Try.ntmps240 rfl (a2_fr _ _) hA ?_
  refine wpS_seq ?_
  refine wpS_region ?_
  refine s_y (v := .slice a n c) (y_load1 (v := .slice a n c) rfl Try.isAgg82 (old1 hb (hrd _ (.inl rfl)))) rfl ?_
  refine s_y (v := .int .i64 (((n : Nat) : Int))) (y_len (ty' := 0) (at_ := #[]) rfl Try.underlying82) rfl ?_
  refine s_y (v := .int .i64 0) (y_move rfl) rfl ?_
  refine wpL_nil ?_
  refine thenS_n ?_
  refine wpS_block ?_
  refine wpS_loop (fun mez ds σ L => ∃ i : Nat, ∃ A1 : List Res, mez = n - i ∧ (i ≤ n) ∧ (I i A1) ∧ ds = [] ∧ σ 0 = yv ∧ σ 5 = .slice a n c ∧ σ 6 = .int .i64 (((n : Nat) : Int)) ∧ σ 7 = .int .i64 (((i : Nat) : Int)) ∧ Ent L (A1)) (m0 := n - 0) ⟨0, A, rfl, by omega, hI, rfl, rfl, rfl, rfl, rfl, (Ent.refl _)⟩ ?_
  rintro mez ds σ L ⟨i, A1, hm_1, hf0_1, hf1_1, rfl, h0_1, h5_1, h6_1, h7_1, hE_1⟩
  refine wpS_ent hE_1 ?_; clear hE_1
  refine wpS_seq ?_
  refine wpS_region ?_
  refine s_y (v := .bool (decide (i < n))) (y_lss (a := ((i : Nat) : Int)) (b := ((n : Nat) : Int)) (c := decide (i < n)) h7_1 h6_1 (decide_eq_decide.2 (by omega))) rfl ?_
  refine wpL_nil ?_
  refine thenS_n ?_
  refine wpS_seq ?_
  refine wpS_cond (t := decide (i < n)) rfl (fun b2 => ?_) (fun b2 => ?_)
  · -- decide (i < n) true
    have p2 := of_decide_eq_true b2
    refine wpS_skip ?_
    refine thenS_n ?_
    refine wpS_seq ?_
    refine wpS_block ?_
    refine wpS_seq ?_
    refine wpS_region ?_
    refine s_y (v := .pointer (some ⟨aB a, aO a + i * 6, none⟩)) (y_idx (o := i * 6) h5_1 h7_1 Try.underlying82 Try.sizeOf86 (oldRD' hr (fun hl => hrd _ (.inr ⟨fl_pos' opcV_len hl, rfl⟩))) ((fl_len opcV_len _).trans (by first | omega | (simp only [List.length_set, List.length_take, List.length_drop]; done) | (simp only [List.length_set, List.length_take, List.length_drop]; omega))) (by decide) (by omega) (by omega) (by omega)) rfl ?_
    refine s_y (v := .agg #[.int .i64 ((vs.getD i default).o0), .int .i64 ((vs.getD i default).o1), .int .i64 ((vs.getD i default).o2), .int .i64 ((vs.getD i default).o3), .int .i64 ((vs.getD i default).o4), .int .i64 (((vs.getD i default).o5).toInt)]) (y_loadN (vs := opcV (vs.getD i default)) rfl Try.isAgg86 Try.sizeOf86 (rdN (oldRD' hr (fun hl => hrd _ (.inr ⟨fl_pos' opcV_len hl, rfl⟩))) (fl_getN opcV_len vs i (by first | omega | (simp only [List.length_set, List.length_take, List.length_drop]; done) | (simp only [List.length_set, List.length_take, List.length_drop]; omega))))) rfl ?_
    refine s_e rfl ?_
    refine e_alloc (l := [.int .i64 0, .int .i64 0, .int .i64 0, .int .i64 0, .int .i64 0, .int .i64 0]) Try.zeroValue86 rfl ?_
    intro b_3
    refine s_e0 ?_
    refine e_store (vs := [.int .i64 ((vs.getD i default).o0), .int .i64 ((vs.getD i default).o1), .int .i64 ((vs.getD i default).o2), .int .i64 ((vs.getD i default).o3), .int .i64 ((vs.getD i default).o4), .int .i64 (((vs.getD i default).o5).toInt)]) (l' := [.int .i64 ((vs.getD i default).o0), .int .i64 ((vs.getD i default).o1), .int .i64 ((vs.getD i default).o2), .int .i64 ((vs.getD i default).o3), .int .i64 ((vs.getD i default).o4), .int .i64 (((vs.getD i default).o5).toInt)]) rfl rfl rfl rfl Try.sizeOf86 .h (Nat.le_of_ble_eq_true rfl) rfl ?_
    refine wpL_nil ?_
    refine thenS_n ?_
    refine wpS_seq ?_
    refine wpS_region ?_
    refine s_y (v := yv) (y_move h0_1) rfl ?_
    refine s_y (v := .agg #[.int .i64 ((vs.getD i default).o0), .int .i64 ((vs.getD i default).o1), .int .i64 ((vs.getD i default).o2), .int .i64 ((vs.getD i default).o3), .int .i64 ((vs.getD i default).o4), .int .i64 (((vs.getD i default).o5).toInt)]) (y_loadN (vs := [.int .i64 ((vs.getD i default).o0), .int .i64 ((vs.getD i default).o1), .int .i64 ((vs.getD i default).o2), .int .i64 ((vs.getD i default).o3), .int .i64 ((vs.getD i default).o4), .int .i64 (((vs.getD i default).o5).toInt)]) rfl Try.isAgg86 Try.sizeOf86 (ownN .h rfl)) rfl ?_
    refine s_e rfl ?_
    refine e_yield (own := [cel b_3 86 [.int .i64 ((vs.getD i default).o0), .int .i64 ((vs.getD i default).o1), .int .i64 ((vs.getD i default).o2), .int .i64 ((vs.getD i default).o3), .int .i64 ((vs.getD i default).o4), .int .i64 (((vs.getD i default).o5).toInt)]]) (A := A1) (enc := (fun k => #[.agg #[.int .i64 (((vs.getD k default)).o0), .int .i64 (((vs.getD k default)).o1), .int .i64 (((vs.getD k default)).o2), .int .i64 (((vs.getD k default)).o3), .int .i64 (((vs.getD k default)).o4), .int .i64 ((((vs.getD k default)).o5).toInt)]])) (k := i) hY rfl (ev1 rfl) (by omega) (by assumption) ?_ ?_
    · intro A_4 hI_5
      refine s_y (v := .bool false) (y_notK (b := true) (c := false) rfl rfl) rfl ?_
      refine wpL_nil ?_
      refine thenS_n ?_
      refine wpS_cond_f rfl ?_
      refine wpS_skip ?_
      refine blockS_n ?_
      refine thenS_n ?_
      refine wpS_region ?_
      refine s_y (v := .int .i64 ((((i + 1) : Nat) : Int))) (y_add (a := ((i : Nat) : Int)) (b := 1) (c := (((i + 1) : Nat) : Int)) h7_1 rfl (wI (by omega) (by omega) (by omega))) rfl ?_
      refine s_y (v := .int .i64 ((((i + 1) : Nat) : Int))) (y_move rfl) rfl ?_
      refine wpL_nil ?_
      refine thenS_n ?_
      exact ⟨_, by omega, ⟨(i + 1), A_4, rfl, by omega, hI_5, rfl, h0_1, h5_1, h6_1, rfl, (Ent.skip _ (Ent.refl _))⟩⟩
    · intro A_6 hI_7
      refine s_y (v := .bool true) (y_notK (b := false) (c := true) rfl rfl) rfl ?_
      refine wpL_nil ?_
      refine thenS_n ?_
      refine wpS_cond_t rfl ?_
      refine wpS_ret ?_
      refine blockS_r ?_
      refine thenS_r ?_
      refine thenS_r ?_
      refine blockS_r ?_
      exact fin0 (.inr rfl) ((Ent.skip _ (Ent.refl _))) Try.results240 (fun w' hs => ⟨rfl, A_6, hs, .inr ⟨i, by omega, hI_7⟩⟩)
  · -- decide (i < n) false
    have p2 := of_decide_eq_false b2
    refine wpS_exit ?_
    refine thenS_x ?_
    refine thenS_x ?_
    refine blockS_h ?_
    exact fin0 (.inl rfl) ((Ent.refl _)) Try.results240 (fun w' hs => ⟨rfl, A1, hs, .inl (by rw [show n = i by omega]; assumption)⟩)

theorem valsO_at (b : Nat) (a : Option Addr) (n c : Nat) (vs : List Opc) (w : World) (hb : w.cell? ⟨b, 0, none⟩ = some (.slice a n c)) (hn : vs.length = n) (hr : Rds w a (vs.flatMap opcV)) (hbn : n ≤ 1000000) :
    IterAt Try.prog 240 #[.pointer (some ⟨b, 0, none⟩)] (fun k => #[.agg #[.int .i64 (((vs.getD k default)).o0), .int .i64 (((vs.getD k default)).o1), .int .i64 (((vs.getD k default)).o2), .int .i64 (((vs.getD k default)).o3), .int .i64 (((vs.getD k default)).o4), .int .i64 ((((vs.getD k default)).o5).toInt)]]) n (fun z => z = b ∨ 0 < vs.length ∧ z = aB a) w :=
  ⟨fun w' hs => valsO_it b a n c vs w' (cell_old hb hs) hn (hr.below (SH.below hs)) hbn, by
    rintro z (rfl | ⟨hl, rfl⟩)
    · exact cell_lt hb
    · exact rdBlk hr (fl_pos opcV_len (by decide) hl)⟩

theorem emit_c (mb : Nat) (Rg : List Int64) (sa : Option Addr) (sn sc : Nat) (xs : List Rec) (q : Int64) (s kk v al : Int64) (w : World) (hx : xs.length = sn) (hb : sn ≤ 1000000) (h0 : 0 ≤ s.toInt) (h1 : s.toInt < (sn : Int)) (hA : SH w (([cel mb 201 (macV Rg sa sn sc q), osl sa sc sn 4 23 (xs.flatMap recV)] : List Res).flatMap Res.fp) [cel mb 201 (macV Rg sa sn sc q), osl sa sc sn 4 23 (xs.flatMap recV)] w) : Calls Try.prog 226 #[.pointer (some ⟨mb, 0, none⟩), .int .i64 (s.toInt), .int .i64 (kk.toInt), .int .i64 (v.toInt), .int .i64 (al.toInt)] w (fun e w' => e = .returned (.tuple #[]) ∧ SH w (([cel mb 201 (macV Rg sa sn sc q), osl sa sc sn 4 23 (xs.flatMap recV)] : List Res).flatMap Res.fp) [cel mb 201 (macV Rg sa sn sc q), osl sa sc sn 4 23 ((xs.set s.toInt.toNat (emitR (q + s) kk v al)).flatMap recV)] w') := by
  refine calls_S (n := 39) (σ0 := (upd (upd (upd (upd (upd fr0 0 (.pointer (some ⟨mb, 0, none⟩))) 1 (.int .i64 (s.toInt))) 2 (.int .i64 (kk.toInt))) 3 (.int .i64 (v.toInt))) 4 (.int .i64 (al.toInt)))) (D := (([cel mb 201 (macV Rg sa sn sc q), osl sa sc sn 4 23 (xs.flatMap recV)] : List Res).flatMap Res.fp)) (A := [cel mb 201 (macV Rg sa sn sc q), osl sa sc sn 4 23 (xs.flatMap recV)]) Try.func226 rfl Try.ntmps226 rfl (a5_fr _ _ _ _ _) hA ?_
  refine wpS_seq ?_
  refine wpS_region ?_
  refine s_y (v := .int .i64 (al.toInt)) (y_move rfl) rfl ?_
  refine s_y (v := .int .u64 ((al.toUInt64).toNat)) (y_convI (a := al.toInt) (c := (al.toUInt64).toNat) rfl Try.underlying2 Try.underlying24 (iu_conv _)) rfl ?_
  refine s_y (v := .int .u64 ((b64 (decide (al.toUInt64 = 0))).toNat)) (y_call (args := #[.int .u64 ((al.toUInt64).toNat), .int .u64 0]) (v := .int .u64 ((b64 (decide (al.toUInt64 = 0))).toNat)) Try.call143 (ev2 rfl rfl) (fun w hs => same_c al.toUInt64 0 w)) rfl ?_
  refine s_e rfl ?_
  refine e_alloc (l := [.int .u64 0]) Try.zeroValue24 rfl ?_
  intro b_1
  refine s_e0 ?_
  refine e_store (vs := [.int .u64 ((b64 (decide (al.toUInt64 = 0))).toNat)]) (l' := [.int .u64 ((b64 (decide (al.toUInt64 = 0))).toNat)]) rfl rfl rfl rfl Try.sizeOf24 .h (Nat.le_of_ble_eq_true rfl) rfl ?_
  refine wpL_nil ?_
  refine thenS_n ?_
  refine wpS_seq ?_
  refine wpS_region ?_
  refine s_y (v := .func (.func 241) #[] #[.pointer (some ⟨b_1, 0, none⟩)]) (y_makeFunc (a := #[]) (b := #[.pointer (some ⟨b_1, 0, none⟩)]) ev0 (ev1 rfl)) rfl ?_
  refine s_y (v := .func (.func 241) #[] #[.pointer (some ⟨b_1, 0, none⟩)]) (y_assign rfl) rfl ?_
  refine wpL_nil ?_
  refine thenS_n ?_
  refine wpS_anyL [cel b_1 24 [.int .u64 ((b64 (decide (al.toUInt64 = 0))).toNat)]] [] (by kernel_rfl) ?_
  refine anyS_take (i := 0) rfl (by kernel_rfl) (by kernel_rfl) (by kernel_rfl) (by kernel_rfl) (Yq.of (v := .pointer (some ⟨mb, 0, none⟩)) (y_move rfl) rfl) (.p .h .nil) ?_
  refine anyS_take (i := 1) rfl (by kernel_rfl) (by kernel_rfl) (by kernel_rfl) (by kernel_rfl) (Yq.of (v := .pointer (some ⟨mb, 0, none⟩)) (y_nilP rfl) rfl) (.p .h .nil) ?_
  refine anyS_take (i := 2) rfl (by kernel_rfl) (by kernel_rfl) (by kernel_rfl) (by kernel_rfl) (Yq.of (v := .pointer (some ⟨mb, 8, none⟩)) (y_fieldAddr (o' := 8) rfl Try.underlying201 rfl Try.sizeOf69 (by decide) rfl) rfl) (.p .h .nil) ?_
  refine anyS_take (i := 4) rfl (by kernel_rfl) (by kernel_rfl) (by kernel_rfl) (by kernel_rfl) (Yq.of (v := .int .i64 (s.toInt)) (y_move rfl) rfl) (.p .h .nil) ?_
  refine anyS_take (i := 5) rfl (by kernel_rfl) (by kernel_rfl) (by kernel_rfl) (by kernel_rfl) (Yq.of (v := .int .u64 ((b64 (decide (al.toUInt64 = 0))).toNat)) (y_load1 rfl Try.isAgg24 (own1 .h rfl)) rfl) (.p .h .nil) ?_
  refine anyS_take (i := 6) rfl (by kernel_rfl) (by kernel_rfl) (by kernel_rfl) (by kernel_rfl) (Yq.of (v := .bool (decide ((b64 (decide (al.toUInt64 = 0))) = 1))) (y_eql (a := (b64 (decide (al.toUInt64 = 0))).toNat) (b := 1) (c := decide ((b64 (decide (al.toUInt64 = 0))) = 1)) rfl rfl (u_eqlL _ 1 (by decide))) rfl) (.p .h .nil) ?_
  refine anyS_take (i := 7) rfl (by kernel_rfl) (by kernel_rfl) (by kernel_rfl) (by kernel_rfl) (Yq.of (v := .func (.func 241) #[] #[.pointer (some ⟨b_1, 0, none⟩)]) (y_move rfl) rfl) (.p .h .nil) ?_
  refine anyS_take (i := 8) rfl (by kernel_rfl) (by kernel_rfl) (by kernel_rfl) (by kernel_rfl) (Yq.of (v := .int .i64 (kk.toInt)) (y_move rfl) rfl) (.p .h .nil) ?_
  refine anyS_take (i := 9) rfl (by kernel_rfl) (by kernel_rfl) (by kernel_rfl) (by kernel_rfl) (Yq.of (v := .int .i64 (((if (b64 (decide (al.toUInt64 = 0))) &&& 1 = 1 then 0 else kk.toUInt64).toInt64).toInt)) (y_callV (cap := #[.pointer (some ⟨b_1, 0, none⟩)]) (args := #[.int .i64 (kk.toInt)]) (args' := #[.int .i64 (kk.toInt), .pointer (some ⟨b_1, 0, none⟩)]) (v := .int .i64 (((if (b64 (decide (al.toUInt64 = 0))) &&& 1 = 1 then 0 else kk.toUInt64).toInt64).toInt)) rfl Try.call241 (ev1 rfl) rfl (fun w hs => emit1_c kk (b64 (decide (al.toUInt64 = 0))) b_1 w (own1 .h rfl w hs))) rfl) (.p .h .nil) ?_
  refine anyS_take (i := 10) rfl (by kernel_rfl) (by kernel_rfl) (by kernel_rfl) (by kernel_rfl) (Yq.of (v := .func (.func 241) #[] #[.pointer (some ⟨b_1, 0, none⟩)]) (y_move rfl) rfl) (.p .h .nil) ?_
  refine anyS_take (i := 11) rfl (by kernel_rfl) (by kernel_rfl) (by kernel_rfl) (by kernel_rfl) (Yq.of (v := .int .i64 (v.toInt)) (y_move rfl) rfl) (.p .h .nil) ?_
  refine anyS_take (i := 12) rfl (by kernel_rfl) (by kernel_rfl) (by kernel_rfl) (by kernel_rfl) (Yq.of (v := .int .i64 (((if (b64 (decide (al.toUInt64 = 0))) &&& 1 = 1 then 0 else v.toUInt64).toInt64).toInt)) (y_callV (cap := #[.pointer (some ⟨b_1, 0, none⟩)]) (args := #[.int .i64 (v.toInt)]) (args' := #[.int .i64 (v.toInt), .pointer (some ⟨b_1, 0, none⟩)]) (v := .int .i64 (((if (b64 (decide (al.toUInt64 = 0))) &&& 1 = 1 then 0 else v.toUInt64).toInt64).toInt)) rfl Try.call241 (ev1 rfl) rfl (fun w hs => emit1_c v (b64 (decide (al.toUInt64 = 0))) b_1 w (own1 .h rfl w hs))) rfl) (.p .h .nil) ?_
  refine anyS_take (i := 13) rfl (by kernel_rfl) (by kernel_rfl) (by kernel_rfl) (by kernel_rfl) (Yq.of (v := .func (.func 241) #[] #[.pointer (some ⟨b_1, 0, none⟩)]) (y_move rfl) rfl) (.p .h .nil) ?_
  refine anyS_take (i := 14) rfl (by kernel_rfl) (by kernel_rfl) (by kernel_rfl) (by kernel_rfl) (Yq.of (v := .pointer (some ⟨mb, 0, none⟩)) (y_move rfl) rfl) (.p .h .nil) ?_
  refine anyS_take (i := 15) rfl (by kernel_rfl) (by kernel_rfl) (by kernel_rfl) (by kernel_rfl) (Yq.of (v := .pointer (some ⟨mb, 0, none⟩)) (y_nilP rfl) rfl) (.p .h .nil) ?_
  refine anyS_take (i := 16) rfl (by kernel_rfl) (by kernel_rfl) (by kernel_rfl) (by kernel_rfl) (Yq.of (v := .pointer (some ⟨mb, 9, none⟩)) (y_fieldAddr (o' := 9) rfl Try.underlying201 rfl Try.sizeOf2 (by decide) rfl) rfl) (.p .h .nil) ?_
  refine anyS_take (i := 18) rfl (by kernel_rfl) (by kernel_rfl) (by kernel_rfl) (by kernel_rfl) (Yq.of (v := .int .i64 (s.toInt)) (y_move rfl) rfl) (.p .h .nil) ?_
  refine anyS_all (rs := [3, 17]) (by kernel_rfl) (by simp) ?_
  intro i hi2; simp only [List.mem_cons, List.not_mem_nil, or_false] at hi2; rcases hi2 with rfl | rfl
  · -- number 3 first
    refine opS_0 rfl rfl ?_
    refine OpE.y (v := .slice sa sn sc) (y_load1 (v := .slice sa sn sc) rfl Try.isAgg69 (own1 (.t .h) rfl)) ?_
    refine ⟨.inr (.p .h .nil), ?_⟩
    refine anyS_all (rs := [17]) (by kernel_rfl) (by simp) ?_
    intro i hi; obtain rfl := List.mem_singleton.1 hi; clear hi
    refine opS_0 rfl rfl ?_
    refine OpE.y (v := .int .i64 (q.toInt)) (y_load1 (v := .int .i64 (q.toInt)) rfl Try.isAgg2 (own1 (.t .h) rfl)) ?_
    refine ⟨.inr (.p .h .nil), ?_⟩
    refine anyS_take (i := 19) rfl (by kernel_rfl) (by kernel_rfl) (by kernel_rfl) (by kernel_rfl) (Yq.of (v := .int .i64 (((q + s)).toInt)) (y_add (a := q.toInt) (b := s.toInt) (c := ((q + s)).toInt) rfl rfl (i_add _ _)) rfl) (.p .h .nil) ?_
    refine anyS_take (i := 20) rfl (by kernel_rfl) (by kernel_rfl) (by kernel_rfl) (by kernel_rfl) (Yq.of (v := .int .i64 (((if (b64 (decide (al.toUInt64 = 0))) &&& 1 = 1 then 0 else (q + s).toUInt64).toInt64).toInt)) (y_callV (cap := #[.pointer (some ⟨b_1, 0, none⟩)]) (args := #[.int .i64 (((q + s)).toInt)]) (args' := #[.int .i64 (((q + s)).toInt), .pointer (some ⟨b_1, 0, none⟩)]) (v := .int .i64 (((if (b64 (decide (al.toUInt64 = 0))) &&& 1 = 1 then 0 else (q + s).toUInt64).toInt64).toInt)) rfl Try.call241 (ev1 rfl) rfl (fun w hs => emit1_c (q + s) (b64 (decide (al.toUInt64 = 0))) b_1 w (own1 .h rfl w hs))) rfl) (.p .h .nil) ?_
    refine anyS_take (i := 21) rfl (by kernel_rfl) (by kernel_rfl) (by kernel_rfl) (by kernel_rfl) (Yq.of (v := .agg #[.bool (decide ((b64 (decide (al.toUInt64 = 0))) = 1)), .int .i64 (((if (b64 (decide (al.toUInt64 = 0))) &&& 1 = 1 then 0 else kk.toUInt64).toInt64).toInt), .int .i64 (((if (b64 (decide (al.toUInt64 = 0))) &&& 1 = 1 then 0 else v.toUInt64).toInt64).toInt), .int .i64 (((if (b64 (decide (al.toUInt64 = 0))) &&& 1 = 1 then 0 else (q + s).toUInt64).toInt64).toInt)]) (y_buildL (m := [(0, .bool (decide ((b64 (decide (al.toUInt64 = 0))) = 1))), (1, .int .i64 (((if (b64 (decide (al.toUInt64 = 0))) &&& 1 = 1 then 0 else kk.toUInt64).toInt64).toInt)), (2, .int .i64 (((if (b64 (decide (al.toUInt64 = 0))) &&& 1 = 1 then 0 else v.toUInt64).toInt64).toInt)), (3, .int .i64 (((if (b64 (decide (al.toUInt64 = 0))) &&& 1 = 1 then 0 else (q + s).toUInt64).toInt64).toInt))]) (vs := #[.bool (decide ((b64 (decide (al.toUInt64 = 0))) = 1)), .int .i64 (((if (b64 (decide (al.toUInt64 = 0))) &&& 1 = 1 then 0 else kk.toUInt64).toInt64).toInt), .int .i64 (((if (b64 (decide (al.toUInt64 = 0))) &&& 1 = 1 then 0 else v.toUInt64).toInt64).toInt), .int .i64 (((if (b64 (decide (al.toUInt64 = 0))) &&& 1 = 1 then 0 else (q + s).toUInt64).toInt64).toInt)]) (evc rfl (evc rfl (evc rfl (evc rfl evn)))) (fun w => by kernel_rfl)) rfl) (.p .h .nil) ?_
    refine anyS_all (rs := [22]) (by kernel_rfl) (by simp) ?_
    intro i hi; obtain rfl := List.mem_singleton.1 hi; clear hi
    refine opS_0 rfl rfl ?_
    refine OpE.y (v := .pointer (some ⟨aB sa, aO sa + ((s.toInt).toNat) * 4, none⟩)) (y_idx (o := ((s.toInt).toNat) * 4) rfl rfl Try.underlying69 Try.sizeOf23 (oslR (.t (.t .h))) ((fl_len recV_len _).trans (by first | omega | (simp only [List.length_set, List.length_take, List.length_drop]; done) | (simp only [List.length_set, List.length_take, List.length_drop]; omega))) (by decide) (by omega) (by omega) (by omega)) ?_
    refine ⟨.inr (.p .h .nil), ?_⟩
    refine anyS_all (rs := [23]) (by kernel_rfl) (by simp) ?_
    intro i hi; obtain rfl := List.mem_singleton.1 hi; clear hi
    refine opS_0 rfl rfl ?_
    refine e_storeL (enc := recV) (xs := xs) (y := (Rec.mk (decide ((b64 (decide (al.toUInt64 = 0))) = 1)) ((if (b64 (decide (al.toUInt64 = 0))) &&& 1 = 1 then 0 else kk.toUInt64).toInt64) ((if (b64 (decide (al.toUInt64 = 0))) &&& 1 = 1 then 0 else v.toUInt64).toInt64) ((if (b64 (decide (al.toUInt64 = 0))) &&& 1 = 1 then 0 else (q + s).toUInt64).toInt64))) recV_len recV_one (by decide) rfl rfl rfl Try.sizeOf23 (.t (.t .h)) (by (try simp only [List.length_set]); omega) ?_
    refine ⟨.inr (.p (.t .h) .nil), ?_⟩
    refine anyS_done (by kernel_rfl) ?_
    exact fin0 (.inl rfl) (.p (.t (.t .h)) (.p .h .nil)) Try.results226 (fun w' hs => ⟨rfl, by rw [emit_eq] at hs; exact hs⟩)
  · -- number 17 first
    refine opS_0 rfl rfl ?_
    refine OpE.y (v := .int .i64 (q.toInt)) (y_load1 (v := .int .i64 (q.toInt)) rfl Try.isAgg2 (own1 (.t .h) rfl)) ?_
    refine ⟨.inr (.p .h .nil), ?_⟩
    refine anyS_take (i := 19) rfl (by kernel_rfl) (by kernel_rfl) (by kernel_rfl) (by kernel_rfl) (Yq.of (v := .int .i64 (((q + s)).toInt)) (y_add (a := q.toInt) (b := s.toInt) (c := ((q + s)).toInt) rfl rfl (i_add _ _)) rfl) (.p .h .nil) ?_
    refine anyS_take (i := 20) rfl (by kernel_rfl) (by kernel_rfl) (by kernel_rfl) (by kernel_rfl) (Yq.of (v := .int .i64 (((if (b64 (decide (al.toUInt64 = 0))) &&& 1 = 1 then 0 else (q + s).toUInt64).toInt64).toInt)) (y_callV (cap := #[.pointer (some ⟨b_1, 0, none⟩)]) (args := #[.int .i64 (((q + s)).toInt)]) (args' := #[.int .i64 (((q + s)).toInt), .pointer (some ⟨b_1, 0, none⟩)]) (v := .int .i64 (((if (b64 (decide (al.toUInt64 = 0))) &&& 1 = 1 then 0 else (q + s).toUInt64).toInt64).toInt)) rfl Try.call241 (ev1 rfl) rfl (fun w hs => emit1_c (q + s) (b64 (decide (al.toUInt64 = 0))) b_1 w (own1 .h rfl w hs))) rfl) (.p .h .nil) ?_
    refine anyS_take (i := 21) rfl (by kernel_rfl) (by kernel_rfl) (by kernel_rfl) (by kernel_rfl) (Yq.of (v := .agg #[.bool (decide ((b64 (decide (al.toUInt64 = 0))) = 1)), .int .i64 (((if (b64 (decide (al.toUInt64 = 0))) &&& 1 = 1 then 0 else kk.toUInt64).toInt64).toInt), .int .i64 (((if (b64 (decide (al.toUInt64 = 0))) &&& 1 = 1 then 0 else v.toUInt64).toInt64).toInt), .int .i64 (((if (b64 (decide (al.toUInt64 = 0))) &&& 1 = 1 then 0 else (q + s).toUInt64).toInt64).toInt)]) (y_buildL (m := [(0, .bool (decide ((b64 (decide (al.toUInt64 = 0))) = 1))), (1, .int .i64 (((if (b64 (decide (al.toUInt64 = 0))) &&& 1 = 1 then 0 else kk.toUInt64).toInt64).toInt)), (2, .int .i64 (((if (b64 (decide (al.toUInt64 = 0))) &&& 1 = 1 then 0 else v.toUInt64).toInt64).toInt)), (3, .int .i64 (((if (b64 (decide (al.toUInt64 = 0))) &&& 1 = 1 then 0 else (q + s).toUInt64).toInt64).toInt))]) (vs := #[.bool (decide ((b64 (decide (al.toUInt64 = 0))) = 1)), .int .i64 (((if (b64 (decide (al.toUInt64 = 0))) &&& 1 = 1 then 0 else kk.toUInt64).toInt64).toInt), .int .i64 (((if (b64 (decide (al.toUInt64 = 0))) &&& 1 = 1 then 0 else v.toUInt64).toInt64).toInt), .int .i64 (((if (b64 (decide (al.toUInt64 = 0))) &&& 1 = 1 then 0 else (q + s).toUInt64).toInt64).toInt)]) (evc rfl (evc rfl (evc rfl (evc rfl evn)))) (fun w => by kernel_rfl)) rfl) (.p .h .nil) ?_
    refine anyS_all (rs := [3]) (by kernel_rfl) (by simp) ?_
    intro i hi; obtain rfl := List.mem_singleton.1 hi; clear hi
    refine opS_0 rfl rfl ?_
    refine OpE.y (v := .slice sa sn sc) (y_load1 (v := .slice sa sn sc) rfl Try.isAgg69 (own1 (.t .h) rfl)) ?_
    refine ⟨.inr (.p .h .nil), ?_⟩
    refine anyS_all (rs := [22]) (by kernel_rfl) (by simp) ?_
    intro i hi; obtain rfl := List.mem_singleton.1 hi; clear hi
    refine opS_0 rfl rfl ?_
    refine OpE.y (v := .pointer (some ⟨aB sa, aO sa + ((s.toInt).toNat) * 4, none⟩)) (y_idx (o := ((s.toInt).toNat) * 4) rfl rfl Try.underlying69 Try.sizeOf23 (oslR (.t (.t .h))) ((fl_len recV_len _).trans (by first | omega | (simp only [List.length_set, List.length_take, List.length_drop]; done) | (simp only [List.length_set, List.length_take, List.length_drop]; omega))) (by decide) (by omega) (by omega) (by omega)) ?_
    refine ⟨.inr (.p .h .nil), ?_⟩
    refine anyS_all (rs := [23]) (by kernel_rfl) (by simp) ?_
    intro i hi; obtain rfl := List.mem_singleton.1 hi; clear hi
    refine opS_0 rfl rfl ?_
    refine e_storeL (enc := recV) (xs := xs) (y := (Rec.mk (decide ((b64 (decide (al.toUInt64 = 0))) = 1)) ((if (b64 (decide (al.toUInt64 = 0))) &&& 1 = 1 then 0 else kk.toUInt64).toInt64) ((if (b64 (decide (al.toUInt64 = 0))) &&& 1 = 1 then 0 else v.toUInt64).toInt64) ((if (b64 (decide (al.toUInt64 = 0))) &&& 1 = 1 then 0 else (q + s).toUInt64).toInt64))) recV_len recV_one (by decide) rfl rfl rfl Try.sizeOf23 (.t (.t .h)) (by (try simp only [List.length_set]); omega) ?_
    refine ⟨.inr (.p (.t .h) .nil), ?_⟩
    refine anyS_done (by kernel_rfl) ?_
    exact fin0 (.inl rfl) (.p (.t (.t .h)) (.p .h .nil)) Try.results226 (fun w' hs => ⟨rfl, by rw [emit_eq] at hs; exact hs⟩)

theorem run_c (mb : Nat) (Rg : List Int64) (sa : Option Addr) (sn sc : Nat) (xs : List Rec) (q : Int64) (ga : Option Addr) (gn gc : Nat) (l : List Opc) (kz : Int) (w : World) (hR : Rg.length = 8) (hx : xs.length = sn) (hk : (sn : Int) = kz) (hp : partOk kz l = true) (hn : l.length = gn) (hb : sn ≤ 1000000) (hr : Rds w ga (l.flatMap opcV)) (hap : 0 < (l.flatMap opcV).length → aB ga ∉ (([cel mb 201 (macV Rg sa sn sc q), osl sa sc sn 4 23 (xs.flatMap recV)] : List Res).flatMap Res.fp)) (hA : SH w (([cel mb 201 (macV Rg sa sn sc q), osl sa sc sn 4 23 (xs.flatMap recV)] : List Res).flatMap Res.fp) [cel mb 201 (macV Rg sa sn sc q), osl sa sc sn 4 23 (xs.flatMap recV)] w) : Calls Try.prog 173 #[.pointer (some ⟨mb, 0, none⟩), .slice ga gn gc] w (fun e w' => e = .returned (.tuple #[]) ∧ SH w (([cel mb 201 (macV Rg sa sn sc q), osl sa sc sn 4 23 (xs.flatMap recV)] : List Res).flatMap Res.fp) [cel mb 201 (macV ((runM q ⟨Rg, xs⟩ l).r) sa sn sc q), osl sa sc sn 4 23 (((runM q ⟨Rg, xs⟩ l).s).flatMap recV)] w') := by
  refine calls_S (n := 53) (σ0 := (upd (upd fr0 0 (.pointer (some ⟨mb, 0, none⟩))) 1 (.slice ga gn gc))) (D := (([cel mb 201 (macV Rg sa sn sc q), osl sa sc sn 4 23 (xs.flatMap recV)] : List Res).flatMap Res.fp)) (A := [cel mb 201 (macV Rg sa sn sc q), osl sa sc sn 4 23 (xs.flatMap recV)]) Try.func173 rfl Try.ntmps173 rfl (a2_fr _ _) hA ?_
  have hl40 := part_len hp
  refine wpS_seq ?_
  refine wpS_region ?_
  refine s_e rfl ?_
  refine e_box (v := .pointer (some ⟨mb, 0, none⟩)) (l := [.pointer (some ⟨mb, 0, none⟩)]) rfl rfl ?_
  intro b_1
  refine wpL_nil ?_
  refine thenS_n ?_
  refine wpS_seq ?_
  refine wpS_region ?_
  refine s_y (v := .slice ga gn gc) (y_move rfl) rfl ?_
  refine s_e rfl ?_
  refine e_call (f := 225) (args := #[.slice ga gn gc]) (X := Nat) (A := []) (M := [cel b_1 198 [.pointer (some ⟨mb, 0, none⟩)], cel mb 201 (macV Rg sa sn sc q), osl sa sc sn 4 23 (xs.flatMap recV)]) (V := fun x : Nat => .func (.func 240) #[] #[.pointer (some ⟨x, 0, none⟩)]) (A' := fun x : Nat => [cel x 82 [.slice ga gn gc]]) (C := fun _ => True) Try.call225 (ev1 rfl) (.p .h (.p .h (.p .h .nil))) (fun w hs => valsO_c ga gn gc w) ?_
  rintro b_2 -
  refine wpL_nil ?_
  refine thenS_n ?_
  refine wpS_block ?_
  refine wpS_rangeFunc (f := 240) (cap := #[.pointer (some ⟨b_2, 0, none⟩)]) (enc := fun k => #[.agg #[.int .i64 (((l.getD k default)).o0), .int .i64 (((l.getD k default)).o1), .int .i64 (((l.getD k default)).o2), .int .i64 (((l.getD k default)).o3), .int .i64 (((l.getD k default)).o4), .int .i64 ((((l.getD k default)).o5).toInt)]]) (N := gn) (rd := fun z => z = b_2 ∨ 0 < l.length ∧ z = aB ga) (A := [cel b_1 198 [.pointer (some ⟨mb, 0, none⟩)], cel mb 201 (macV Rg sa sn sc q), osl sa sc sn 4 23 (xs.flatMap recV)]) (M := [cel b_2 82 [.slice ga gn gc]]) (fun k A => A = [cel b_1 198 [.pointer (some ⟨mb, 0, none⟩)], cel mb 201 (macV ((runM q ⟨Rg, xs⟩ (l.take k)).r) sa sn sc q), osl sa sc sn 4 23 (((runM q ⟨Rg, xs⟩ (l.take k)).s).flatMap recV)]) (fun k e A => False) rfl Try.call240 (by kernel_rfl) (fun _ => rfl) (.p (.t .h) (.p (.t .h) (.p (.t .h) (.p .h .nil)))) rfl (fun w hs => (valsO_at b_2 ga gn gc l w (own1 (.t (.t (.t .h))) rfl w hs) hn ((oldRD' hr hap) w hs) (by omega)).it) (fun w hs b hb => by rcases hb with rfl | ⟨hl, rfl⟩; exact apM (A := [cel b_1 198 [.pointer (some ⟨mb, 0, none⟩)], cel mb 201 (macV Rg sa sn sc q), osl sa sc sn 4 23 (xs.flatMap recV)]) hs .h (by simp [cel, blk]); exact apOld hs (rdBlk hr (fl_pos opcV_len (by decide) hl)) (hap (fl_pos opcV_len (by decide) hl))) ?_ ?_ ?_
  · -- a round
    rintro k A' hk_3 rfl w_3 l_3 hs_3
    refine wpS_region ?_
    refine s_e rfl ?_
    refine e_alloc (l := [.int .i64 0, .int .i64 0, .int .i64 0, .int .i64 0, .int .i64 0, .int .i64 0]) Try.zeroValue86 rfl ?_
    intro b_4
    refine s_e0 ?_
    refine e_store (vs := [.int .i64 (((l.getD k default)).o0), .int .i64 (((l.getD k default)).o1), .int .i64 (((l.getD k default)).o2), .int .i64 (((l.getD k default)).o3), .int .i64 (((l.getD k default)).o4), .int .i64 ((((l.getD k default)).o5).toInt)]) (l' := [.int .i64 (((l.getD k default)).o0), .int .i64 (((l.getD k default)).o1), .int .i64 (((l.getD k default)).o2), .int .i64 (((l.getD k default)).o3), .int .i64 (((l.getD k default)).o4), .int .i64 ((((l.getD k default)).o5).toInt)]) rfl rfl rfl rfl Try.sizeOf86 .h (Nat.le_of_ble_eq_true rfl) rfl ?_
    refine wpL_nil ?_
    refine asg_n fun w2_3 hs2_3 => ?_
    have hop := part_at hp (i := k) (by omega)
    obtain ⟨ho1, ho2, ho3, ho4, ho5, ho6, ho7, ho8, ho9, ho10⟩ := op_regs hop
    have hrk : (runM q ⟨Rg, xs⟩ (l.take k)).r.length = 8 := (runM_r _ _ _).trans hR
    have hsk : (runM q ⟨Rg, xs⟩ (l.take k)).s.length = sn := (runM_s _ _ _).trans hx
    have hst := runM_step (q := q) (m := ⟨Rg, xs⟩) (l := l) (i := k) (by omega)
    refine wpS_block ?_
    refine wpS_seq ?_
    refine wpS_lex (by kernel_rfl) (by kernel_rfl) ?_
    refine x_y (v := .pointer (some ⟨mb, 0, none⟩)) (y_load1 rfl Try.isAgg198 (own1 (.t .h) rfl)) rfl ?_
    refine x_y (v := .pointer (some ⟨b_4, 2, none⟩)) (y_fieldAddr (o' := 2) rfl Try.underlying86 rfl Try.sizeOf3 (by decide) rfl) rfl ?_
    refine x_y (v := .int .i64 (((l.getD k default)).o2)) (y_load1 rfl Try.isAgg3 (own1 .h rfl)) rfl ?_
    refine x_y (v := .pointer (some ⟨mb, 0, none⟩)) (y_nilP rfl) rfl ?_
    refine x_y (v := .pointer (some ⟨mb, 0, none⟩)) (y_fieldAddr (o' := 0) rfl Try.underlying201 rfl Try.sizeOf199 (by decide) rfl) rfl ?_
    refine x_y (v := .pointer (some ⟨mb, 0 + ((((l.getD k default)).o2).toNat) * 1, none⟩)) (y_idxA (o' := 0 + ((((l.getD k default)).o2).toNat) * 1) rfl rfl Try.underlying199 Try.sizeOf2 (by omega) (by omega) (by omega)) rfl ?_
    refine x_y (v := .int .i64 (((((runM q ⟨Rg, xs⟩ (l.take k)).r).getD ((((l.getD k default)).o2).toNat) 0)).toInt)) (y_load1 (v := .int .i64 (((((runM q ⟨Rg, xs⟩ (l.take k)).r).getD ((((l.getD k default)).o2).toNat) 0)).toInt)) rfl Try.isAgg2 (own1 (.t (.t .h)) (mac_get (by omega)))) rfl ?_
    refine x_y (v := .pointer (some ⟨mb, 0, none⟩)) (y_load1 rfl Try.isAgg198 (own1 (.t .h) rfl)) rfl ?_
    refine x_y (v := .pointer (some ⟨b_4, 3, none⟩)) (y_fieldAddr (o' := 3) rfl Try.underlying86 rfl Try.sizeOf3 (by decide) rfl) rfl ?_
    refine x_y (v := .int .i64 (((l.getD k default)).o3)) (y_load1 rfl Try.isAgg3 (own1 .h rfl)) rfl ?_
    refine x_y (v := .pointer (some ⟨mb, 0, none⟩)) (y_nilP rfl) rfl ?_
    refine x_y (v := .pointer (some ⟨mb, 0, none⟩)) (y_fieldAddr (o' := 0) rfl Try.underlying201 rfl Try.sizeOf199 (by decide) rfl) rfl ?_
    refine x_y (v := .pointer (some ⟨mb, 0 + ((((l.getD k default)).o3).toNat) * 1, none⟩)) (y_idxA (o' := 0 + ((((l.getD k default)).o3).toNat) * 1) rfl rfl Try.underlying199 Try.sizeOf2 (by omega) (by omega) (by omega)) rfl ?_
    refine x_y (v := .int .i64 (((((runM q ⟨Rg, xs⟩ (l.take k)).r).getD ((((l.getD k default)).o3).toNat) 0)).toInt)) (y_load1 (v := .int .i64 (((((runM q ⟨Rg, xs⟩ (l.take k)).r).getD ((((l.getD k default)).o3).toNat) 0)).toInt)) rfl Try.isAgg2 (own1 (.t (.t .h)) (mac_get (by omega)))) rfl ?_
    refine x_y (v := .pointer (some ⟨mb, 0, none⟩)) (y_load1 rfl Try.isAgg198 (own1 (.t .h) rfl)) rfl ?_
    refine x_y (v := .pointer (some ⟨b_4, 4, none⟩)) (y_fieldAddr (o' := 4) rfl Try.underlying86 rfl Try.sizeOf3 (by decide) rfl) rfl ?_
    refine x_y (v := .int .i64 (((l.getD k default)).o4)) (y_load1 rfl Try.isAgg3 (own1 .h rfl)) rfl ?_
    refine x_y (v := .pointer (some ⟨mb, 0, none⟩)) (y_nilP rfl) rfl ?_
    refine x_y (v := .pointer (some ⟨mb, 0, none⟩)) (y_fieldAddr (o' := 0) rfl Try.underlying201 rfl Try.sizeOf199 (by decide) rfl) rfl ?_
    refine x_y (v := .pointer (some ⟨mb, 0 + ((((l.getD k default)).o4).toNat) * 1, none⟩)) (y_idxA (o' := 0 + ((((l.getD k default)).o4).toNat) * 1) rfl rfl Try.underlying199 Try.sizeOf2 (by omega) (by omega) (by omega)) rfl ?_
    refine x_y (v := .int .i64 (((((runM q ⟨Rg, xs⟩ (l.take k)).r).getD ((((l.getD k default)).o4).toNat) 0)).toInt)) (y_load1 (v := .int .i64 (((((runM q ⟨Rg, xs⟩ (l.take k)).r).getD ((((l.getD k default)).o4).toNat) 0)).toInt)) rfl Try.isAgg2 (own1 (.t (.t .h)) (mac_get (by omega)))) rfl ?_
    refine x_y (v := .int .i64 (((((runM q ⟨Rg, xs⟩ (l.take k)).r).getD ((((l.getD k default)).o2).toNat) 0)).toInt)) (y_assign rfl) rfl ?_
    refine x_y (v := .int .i64 (((((runM q ⟨Rg, xs⟩ (l.take k)).r).getD ((((l.getD k default)).o3).toNat) 0)).toInt)) (y_assign rfl) rfl ?_
    refine x_y (v := .int .i64 (((((runM q ⟨Rg, xs⟩ (l.take k)).r).getD ((((l.getD k default)).o4).toNat) 0)).toInt)) (y_assign rfl) rfl ?_
    refine x_nil ?_
    refine thenS_n ?_
    refine wpS_seq ?_
    refine wpS_region ?_
    refine s_y (v := .pointer (some ⟨b_4, 0, none⟩)) (y_fieldAddr (o' := 0) rfl Try.underlying86 rfl Try.sizeOf3 (by decide) rfl) rfl ?_
    refine s_y (v := .int .i64 (((l.getD k default)).o0)) (y_load1 rfl Try.isAgg3 (own1 .h rfl)) rfl ?_
    refine s_y (v := .bool (decide ((((l.getD k default)).o0 : Int) = 12))) (y_eql (a := ((l.getD k default)).o0) (b := 12) rfl rfl rfl) rfl ?_
    refine wpL_nil ?_
    refine thenS_n ?_
    refine wpS_cond (t := decide ((((l.getD k default)).o0 : Int) = 12)) rfl (fun b5 => ?_) (fun b5 => ?_)
    · -- decide ((((l.getD k default)).o0 : Int) = 12) true
      have p5 := of_decide_eq_true b5
      have hsl2 := op_slot hop (by omega)
      refine wpS_region ?_
      refine s_y (v := .pointer (some ⟨mb, 0, none⟩)) (y_load1 rfl Try.isAgg198 (own1 (.t .h) rfl)) rfl ?_
      refine s_y (v := .pointer (some ⟨b_4, 5, none⟩)) (y_fieldAddr (o' := 5) rfl Try.underlying86 rfl Try.sizeOf2 (by decide) rfl) rfl ?_
      refine s_y (v := .int .i64 ((((l.getD k default)).o5).toInt)) (y_load1 rfl Try.isAgg2 (own1 .h rfl)) rfl ?_
      refine s_y (v := .int .i64 (((((runM q ⟨Rg, xs⟩ (l.take k)).r).getD ((((l.getD k default)).o2).toNat) 0)).toInt)) (y_move rfl) rfl ?_
      refine s_y (v := .int .i64 (((((runM q ⟨Rg, xs⟩ (l.take k)).r).getD ((((l.getD k default)).o3).toNat) 0)).toInt)) (y_move rfl) rfl ?_
      refine s_y (v := .int .i64 (((((runM q ⟨Rg, xs⟩ (l.take k)).r).getD ((((l.getD k default)).o4).toNat) 0)).toInt)) (y_move rfl) rfl ?_
      refine s_e rfl ?_
      refine e_call (f := 226) (args := #[.pointer (some ⟨mb, 0, none⟩), .int .i64 ((((l.getD k default)).o5).toInt), .int .i64 (((((runM q ⟨Rg, xs⟩ (l.take k)).r).getD ((((l.getD k default)).o2).toNat) 0)).toInt), .int .i64 (((((runM q ⟨Rg, xs⟩ (l.take k)).r).getD ((((l.getD k default)).o3).toNat) 0)).toInt), .int .i64 (((((runM q ⟨Rg, xs⟩ (l.take k)).r).getD ((((l.getD k default)).o4).toNat) 0)).toInt)]) (X := Unit) (A := [cel mb 201 (macV ((runM q ⟨Rg, xs⟩ (l.take k)).r) sa sn sc q), osl sa sc sn 4 23 (((runM q ⟨Rg, xs⟩ (l.take k)).s).flatMap recV)]) (M := [cel b_4 86 [.int .i64 (((l.getD k default)).o0), .int .i64 (((l.getD k default)).o1), .int .i64 (((l.getD k default)).o2), .int .i64 (((l.getD k default)).o3), .int .i64 (((l.getD k default)).o4), .int .i64 ((((l.getD k default)).o5).toInt)], cel b_1 198 [.pointer (some ⟨mb, 0, none⟩)]]) (V := fun _ => .tuple #[]) (A' := fun _ => [cel mb 201 (macV ((runM q ⟨Rg, xs⟩ (l.take k)).r) sa sn sc q), osl sa sc sn 4 23 ((((runM q ⟨Rg, xs⟩ (l.take k)).s).set (((l.getD k default)).o5).toInt.toNat (emitR (q + (((l.getD k default)).o5)) (((runM q ⟨Rg, xs⟩ (l.take k)).r).getD ((((l.getD k default)).o2).toNat) 0) (((runM q ⟨Rg, xs⟩ (l.take k)).r).getD ((((l.getD k default)).o3).toNat) 0) (((runM q ⟨Rg, xs⟩ (l.take k)).r).getD ((((l.getD k default)).o4).toNat) 0))).flatMap recV)]) (C := fun _ => True) Try.call226 (ev5 rfl rfl rfl rfl rfl) (.p (.t (.t .h)) (.p (.t (.t .h)) (.p .h (.p .h .nil)))) (fun w hs => (emit_c mb ((runM q ⟨Rg, xs⟩ (l.take k)).r) sa sn sc ((runM q ⟨Rg, xs⟩ (l.take k)).s) q (((l.getD k default)).o5) (((runM q ⟨Rg, xs⟩ (l.take k)).r).getD ((((l.getD k default)).o2).toNat) 0) (((runM q ⟨Rg, xs⟩ (l.take k)).r).getD ((((l.getD k default)).o3).toNat) 0) (((runM q ⟨Rg, xs⟩ (l.take k)).r).getD ((((l.getD k default)).o4).toNat) 0) w (by omega) (by omega) (by omega) (by omega) (SH.lend hs)).mono (fun e w2 hx => ⟨(), hx.1, hx.2, trivial⟩)) ?_
      rintro ⟨⟩ -
      have hem1 : (((runM q ⟨Rg, xs⟩ (l.take k)).s).set (((l.getD k default)).o5).toInt.toNat (emitR (q + (((l.getD k default)).o5)) (((runM q ⟨Rg, xs⟩ (l.take k)).r).getD ((((l.getD k default)).o2).toNat) 0) (((runM q ⟨Rg, xs⟩ (l.take k)).r).getD ((((l.getD k default)).o3).toNat) 0) (((runM q ⟨Rg, xs⟩ (l.take k)).r).getD ((((l.getD k default)).o4).toNat) 0))) = (runM q ⟨Rg, xs⟩ (l.take (k + 1))).s := by rw [hst]; unfold stepM; rw [if_pos (by omega)]; rfl
      have hem2 : (runM q ⟨Rg, xs⟩ (l.take k)).r = (runM q ⟨Rg, xs⟩ (l.take (k + 1))).r := by rw [hst]; unfold stepM; rw [if_pos (by omega)]
      rw [hem1, hem2]
      refine wpL_nil ?_
      refine blockS_n ?_
      exact rnd_n ⟨[cel b_1 198 [.pointer (some ⟨mb, 0, none⟩)], cel mb 201 (macV ((runM q ⟨Rg, xs⟩ (l.take (k + 1))).r) sa sn sc q), osl sa sc sn 4 23 (((runM q ⟨Rg, xs⟩ (l.take (k + 1))).s).flatMap recV)], .p (.t (.t (.t .h))) (.p .h (.p .h .nil)), rfl⟩
    · -- decide ((((l.getD k default)).o0 : Int) = 12) false
      have p5 := of_decide_eq_false b5
      refine wpS_anyL [cel b_4 86 [.int .i64 (((l.getD k default)).o0), .int .i64 (((l.getD k default)).o1), .int .i64 (((l.getD k default)).o2), .int .i64 (((l.getD k default)).o3), .int .i64 (((l.getD k default)).o4), .int .i64 ((((l.getD k default)).o5).toInt)], cel b_1 198 [.pointer (some ⟨mb, 0, none⟩)]] [] (by kernel_rfl) ?_
      refine anyS_take (i := 0) rfl (by kernel_rfl) (by kernel_rfl) (by kernel_rfl) (by kernel_rfl) (Yq.of (v := .pointer (some ⟨mb, 0, none⟩)) (y_load1 rfl Try.isAgg198 (own1 (.t .h) rfl)) rfl) (.p .h (.p .h .nil)) ?_
      refine anyS_take (i := 1) rfl (by kernel_rfl) (by kernel_rfl) (by kernel_rfl) (by kernel_rfl) (Yq.of (v := .pointer (some ⟨b_4, 1, none⟩)) (y_fieldAddr (o' := 1) rfl Try.underlying86 rfl Try.sizeOf3 (by decide) rfl) rfl) (.p .h (.p .h .nil)) ?_
      refine anyS_take (i := 2) rfl (by kernel_rfl) (by kernel_rfl) (by kernel_rfl) (by kernel_rfl) (Yq.of (v := .int .i64 (((l.getD k default)).o1)) (y_load1 rfl Try.isAgg3 (own1 .h rfl)) rfl) (.p .h (.p .h .nil)) ?_
      refine anyS_take (i := 3) rfl (by kernel_rfl) (by kernel_rfl) (by kernel_rfl) (by kernel_rfl) (Yq.of (v := .agg #[.int .i64 (((l.getD k default)).o0), .int .i64 (((l.getD k default)).o1), .int .i64 (((l.getD k default)).o2), .int .i64 (((l.getD k default)).o3), .int .i64 (((l.getD k default)).o4), .int .i64 ((((l.getD k default)).o5).toInt)]) (y_loadN (vs := [.int .i64 (((l.getD k default)).o0), .int .i64 (((l.getD k default)).o1), .int .i64 (((l.getD k default)).o2), .int .i64 (((l.getD k default)).o3), .int .i64 (((l.getD k default)).o4), .int .i64 ((((l.getD k default)).o5).toInt)]) rfl Try.isAgg86 Try.sizeOf86 (ownN .h rfl)) rfl) (.p .h (.p .h .nil)) ?_
      refine anyS_take (i := 4) rfl (by kernel_rfl) (by kernel_rfl) (by kernel_rfl) (by kernel_rfl) (Yq.of (v := .int .i64 (((((runM q ⟨Rg, xs⟩ (l.take k)).r).getD ((((l.getD k default)).o2).toNat) 0)).toInt)) (y_move rfl) rfl) (.p .h (.p .h .nil)) ?_
      refine anyS_take (i := 5) rfl (by kernel_rfl) (by kernel_rfl) (by kernel_rfl) (by kernel_rfl) (Yq.of (v := .int .i64 (((((runM q ⟨Rg, xs⟩ (l.take k)).r).getD ((((l.getD k default)).o3).toNat) 0)).toInt)) (y_move rfl) rfl) (.p .h (.p .h .nil)) ?_
      refine anyS_take (i := 6) rfl (by kernel_rfl) (by kernel_rfl) (by kernel_rfl) (by kernel_rfl) (Yq.of (v := .int .i64 (((((runM q ⟨Rg, xs⟩ (l.take k)).r).getD ((((l.getD k default)).o4).toNat) 0)).toInt)) (y_move rfl) rfl) (.p .h (.p .h .nil)) ?_
      refine anyS_take (i := 7) rfl (by kernel_rfl) (by kernel_rfl) (by kernel_rfl) (by kernel_rfl) (Yq.of (v := .int .i64 (((madeV ((l.getD k default)) (((runM q ⟨Rg, xs⟩ (l.take k)).r).getD ((((l.getD k default)).o2).toNat) 0) (((runM q ⟨Rg, xs⟩ (l.take k)).r).getD ((((l.getD k default)).o3).toNat) 0) (((runM q ⟨Rg, xs⟩ (l.take k)).r).getD ((((l.getD k default)).o4).toNat) 0))).toInt)) (y_call (args := #[.agg #[.int .i64 (((l.getD k default)).o0), .int .i64 (((l.getD k default)).o1), .int .i64 (((l.getD k default)).o2), .int .i64 (((l.getD k default)).o3), .int .i64 (((l.getD k default)).o4), .int .i64 ((((l.getD k default)).o5).toInt)], .int .i64 (((((runM q ⟨Rg, xs⟩ (l.take k)).r).getD ((((l.getD k default)).o2).toNat) 0)).toInt), .int .i64 (((((runM q ⟨Rg, xs⟩ (l.take k)).r).getD ((((l.getD k default)).o3).toNat) 0)).toInt), .int .i64 (((((runM q ⟨Rg, xs⟩ (l.take k)).r).getD ((((l.getD k default)).o4).toNat) 0)).toInt)]) (v := .int .i64 (((madeV ((l.getD k default)) (((runM q ⟨Rg, xs⟩ (l.take k)).r).getD ((((l.getD k default)).o2).toNat) 0) (((runM q ⟨Rg, xs⟩ (l.take k)).r).getD ((((l.getD k default)).o3).toNat) 0) (((runM q ⟨Rg, xs⟩ (l.take k)).r).getD ((((l.getD k default)).o4).toNat) 0))).toInt)) Try.call227 (ev4 rfl rfl rfl rfl) (fun w hs => made_c ((l.getD k default)) (((runM q ⟨Rg, xs⟩ (l.take k)).r).getD ((((l.getD k default)).o2).toNat) 0) (((runM q ⟨Rg, xs⟩ (l.take k)).r).getD ((((l.getD k default)).o3).toNat) 0) (((runM q ⟨Rg, xs⟩ (l.take k)).r).getD ((((l.getD k default)).o4).toNat) 0) w)) rfl) (.p .h (.p .h .nil)) ?_
      refine anyS_take (i := 8) rfl (by kernel_rfl) (by kernel_rfl) (by kernel_rfl) (by kernel_rfl) (Yq.of (v := .pointer (some ⟨mb, 0, none⟩)) (y_nilP rfl) rfl) (.p .h (.p .h .nil)) ?_
      refine anyS_take (i := 9) rfl (by kernel_rfl) (by kernel_rfl) (by kernel_rfl) (by kernel_rfl) (Yq.of (v := .pointer (some ⟨mb, 0, none⟩)) (y_fieldAddr (o' := 0) rfl Try.underlying201 rfl Try.sizeOf199 (by decide) rfl) rfl) (.p .h (.p .h .nil)) ?_
      refine anyS_take (i := 10) rfl (by kernel_rfl) (by kernel_rfl) (by kernel_rfl) (by kernel_rfl) (Yq.of (v := .pointer (some ⟨mb, 0 + ((((l.getD k default)).o1).toNat) * 1, none⟩)) (y_idxA (o' := 0 + ((((l.getD k default)).o1).toNat) * 1) rfl rfl Try.underlying199 Try.sizeOf2 (by omega) (by omega) (by omega)) rfl) (.p .h (.p .h .nil)) ?_
      refine anyS_all (rs := [11]) (by kernel_rfl) (by simp) ?_
      intro i hi; obtain rfl := List.mem_singleton.1 hi; clear hi
      refine opS_0 rfl rfl ?_
      have hem2 : (runM q ⟨Rg, xs⟩ (l.take k)).s = (runM q ⟨Rg, xs⟩ (l.take (k + 1))).s := by rw [hst]; unfold stepM; rw [if_neg (by omega)]
      have hem1 : (runM q ⟨Rg, xs⟩ (l.take k)).r.set ((((l.getD k default)).o1).toNat) (madeV ((l.getD k default)) (((runM q ⟨Rg, xs⟩ (l.take k)).r).getD ((((l.getD k default)).o2).toNat) 0) (((runM q ⟨Rg, xs⟩ (l.take k)).r).getD ((((l.getD k default)).o3).toNat) 0) (((runM q ⟨Rg, xs⟩ (l.take k)).r).getD ((((l.getD k default)).o4).toNat) 0)) = (runM q ⟨Rg, xs⟩ (l.take (k + 1))).r := by rw [hst]; unfold stepM; rw [if_neg (by omega)]; rfl
      refine e_store (vs := [.int .i64 (((madeV ((l.getD k default)) (((runM q ⟨Rg, xs⟩ (l.take k)).r).getD ((((l.getD k default)).o2).toNat) 0) (((runM q ⟨Rg, xs⟩ (l.take k)).r).getD ((((l.getD k default)).o3).toNat) 0) (((runM q ⟨Rg, xs⟩ (l.take k)).r).getD ((((l.getD k default)).o4).toNat) 0))).toInt)]) (l' := (macV ((runM q ⟨Rg, xs⟩ (l.take (k + 1))).r) sa sn sc q)) rfl rfl rfl rfl Try.sizeOf2 (.t (.t .h)) (by show _ ≤ 10; simp only [List.length_singleton]; omega) (mac_set hrk (by omega) hem1) ?_
      rw [hem2]
      refine ⟨.inr (.p (.t .h) (.p (.t .h) .nil)), ?_⟩
      refine anyS_done (by kernel_rfl) ?_
      refine blockS_n ?_
      exact rnd_n ⟨[cel b_1 198 [.pointer (some ⟨mb, 0, none⟩)], cel mb 201 (macV ((runM q ⟨Rg, xs⟩ (l.take (k + 1))).r) sa sn sc q), osl sa sc sn 4 23 (((runM q ⟨Rg, xs⟩ (l.take (k + 1))).s).flatMap recV)], .p (.t (.t .h)) (.p .h (.p (.t .h) .nil)), rfl⟩
  · -- behind
    rintro d_3 A' rfl
    refine blockS_n ?_
    exact fin0 (.inl rfl) (.p .h (.p (.t .h) (.p (.t .h) .nil))) Try.results173 (fun w' hs => ⟨rfl, by rw [List.take_of_length_le (by omega)] at hs; exact hs⟩)
  · -- left
    intro _ _ _ _ _ h; exact h.elim

end Go.Proofs.Ytldkjjnjdjfipaa
