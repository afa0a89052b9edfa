/- A run and Step by the reference; walked. -/
import Derived.Test.YtldkjjnjdjfipaaWRef11
import Derived.Test.YtldkjjnjdjfipaaWChn1
import Derived.Test.YtldkjjnjdjfipaaP15d
namespace Go.Proofs.Ytldkjjnjdjfipaa
open Go Go.RowKit
set_option linter.unusedVariables false
set_option linter.unusedSimpArgs false
set_option maxRecDepth 10000
set_option maxHeartbeats 1000000

@[reducible] def arrV (Rg : List Int64) : List Value := [.int .i64 (Rg.getD 0 0).toInt, .int .i64 (Rg.getD 1 0).toInt, .int .i64 (Rg.getD 2 0).toInt, .int .i64 (Rg.getD 3 0).toInt, .int .i64 (Rg.getD 4 0).toInt, .int .i64 (Rg.getD 5 0).toInt, .int .i64 (Rg.getD 6 0).toInt, .int .i64 (Rg.getD 7 0).toInt]
theorem arr_get {Rg : List Int64} {i : Nat} (h : i < 8) : (arrV Rg)[0 + i * 1]? = some (.int .i64 (Rg.getD i 0).toInt) := by
  match i, h with
  | 0, _ => rfl
  | 1, _ => rfl
  | 2, _ => rfl
  | 3, _ => rfl
  | 4, _ => rfl
  | 5, _ => rfl
  | 6, _ => rfl
  | 7, _ => rfl
theorem arr_set {Rg R2 : List Int64} (hR : Rg.length = 8) {i : Nat} (h : i < 8) {v : Int64} (h2 : Rg.set i v = R2) : (arrV Rg).take (0 + i * 1) ++ [.int .i64 v.toInt] ++ (arrV Rg).drop (0 + i * 1 + [Value.int .i64 v.toInt].length) = arrV R2 := by
  subst h2
  match Rg, hR with
  | [r0, r1, r2, r3, r4, r5, r6, r7], _ =>
    match i, h with
    | 0, _ => rfl
    | 1, _ => rfl
    | 2, _ => rfl
    | 3, _ => rfl
    | 4, _ => rfl
    | 5, _ => rfl
    | 6, _ => rfl
    | 7, _ => rfl

theorem rone_c (b : Bool) (w : World) : Pure Try.prog 242 #[.bool b] w (.int .i64 ((one64 b).toInt)) := by
  refine calls_S (n := 4) (σ0 := (upd fr0 0 (.bool b))) (D := []) (A := []) Try.func242 rfl Try.ntmps242 rfl (a1_fr _) (SH.start w) ?_
  refine wpS_seq ?_
  refine wpS_region ?_
  refine s_y (v := .int .i64 0) (y_assign rfl) rfl ?_
  refine wpL_nil ?_
  refine thenS_n ?_
  refine wpS_seq ?_
  refine wpS_seq ?_
  refine wpS_region ?_
  refine s_y (v := .bool b) (y_move rfl) rfl ?_
  refine wpL_nil ?_
  refine thenS_n ?_
  refine wpS_cond (t := b) rfl (fun b1 => ?_) (fun b1 => ?_)
  · -- b true
    refine wpS_seq ?_
    refine wpS_region ?_
    refine s_y (v := .int .i64 1) (y_assign rfl) rfl ?_
    refine wpL_nil ?_
    refine thenS_n ?_
    refine wpS_ret ?_
    refine thenS_r ?_
    refine fin1 (v := .int .i64 1) (.inr rfl) (.nil) Try.results242 rfl ?_
    exact fun w' hs => ⟨congrArg (fun z : Int64 => Ending.returned (.int .i64 z.toInt)) ((by rw [(by assumption : b = true)]; rfl : (1 : Int64) = one64 b)), hs⟩
  · -- b false
    refine wpS_skip ?_
    refine thenS_n ?_
    refine wpS_seq ?_
    refine wpS_region ?_
    refine s_y (v := .int .i64 0) (y_assign rfl) rfl ?_
    refine wpL_nil ?_
    refine thenS_n ?_
    refine wpS_ret ?_
    refine fin1 (v := .int .i64 0) (.inr rfl) (.nil) Try.results242 rfl ?_
    exact fun w' hs => ⟨congrArg (fun z : Int64 => Ending.returned (.int .i64 z.toInt)) ((by rw [(by assumption : b = false)]; rfl : (0 : Int64) = one64 b)), hs⟩

theorem rrun_c (Rg : List Int64) (ga : Option Addr) (gn gc : Nat) (l : List Opc) (w : World) (hR : Rg.length = 8) (hp : partOk 0 l = true) (hn : l.length = gn) (hr : Rds w ga (l.flatMap opcV)) (hb : gn ≤ 1000000) : Pure Try.prog 231 #[.slice ga gn gc, .agg #[.int .i64 (((Rg.getD 0 0)).toInt), .int .i64 (((Rg.getD 1 0)).toInt), .int .i64 (((Rg.getD 2 0)).toInt), .int .i64 (((Rg.getD 3 0)).toInt), .int .i64 (((Rg.getD 4 0)).toInt), .int .i64 (((Rg.getD 5 0)).toInt), .int .i64 (((Rg.getD 6 0)).toInt), .int .i64 (((Rg.getD 7 0)).toInt)], .slice none 0 0, .int .i64 0] w (.tuple #[.agg #[.int .i64 ((((runM 0 ⟨Rg, []⟩ l).r.getD 0 0)).toInt), .int .i64 ((((runM 0 ⟨Rg, []⟩ l).r.getD 1 0)).toInt), .int .i64 ((((runM 0 ⟨Rg, []⟩ l).r.getD 2 0)).toInt), .int .i64 ((((runM 0 ⟨Rg, []⟩ l).r.getD 3 0)).toInt), .int .i64 ((((runM 0 ⟨Rg, []⟩ l).r.getD 4 0)).toInt), .int .i64 ((((runM 0 ⟨Rg, []⟩ l).r.getD 5 0)).toInt), .int .i64 ((((runM 0 ⟨Rg, []⟩ l).r.getD 6 0)).toInt), .int .i64 ((((runM 0 ⟨Rg, []⟩ l).r.getD 7 0)).toInt)], .slice none 0 0]) := by
  refine calls_S (n := 156) (σ0 := (upd (upd (upd (upd fr0 0 (.slice ga gn gc)) 1 (.agg #[.int .i64 (((Rg.getD 0 0)).toInt), .int .i64 (((Rg.getD 1 0)).toInt), .int .i64 (((Rg.getD 2 0)).toInt), .int .i64 (((Rg.getD 3 0)).toInt), .int .i64 (((Rg.getD 4 0)).toInt), .int .i64 (((Rg.getD 5 0)).toInt), .int .i64 (((Rg.getD 6 0)).toInt), .int .i64 (((Rg.getD 7 0)).toInt)])) 2 (.slice none 0 0)) 3 (.int .i64 0))) (D := []) (A := []) Try.func231 rfl Try.ntmps231 rfl (a4_fr _ _ _ _) (SH.start w) ?_
  refine wpS_seq ?_
  refine wpS_region ?_
  refine s_e rfl ?_
  refine e_box (v := .agg #[.int .i64 (((Rg.getD 0 0)).toInt), .int .i64 (((Rg.getD 1 0)).toInt), .int .i64 (((Rg.getD 2 0)).toInt), .int .i64 (((Rg.getD 3 0)).toInt), .int .i64 (((Rg.getD 4 0)).toInt), .int .i64 (((Rg.getD 5 0)).toInt), .int .i64 (((Rg.getD 6 0)).toInt), .int .i64 (((Rg.getD 7 0)).toInt)]) (l := [.int .i64 (((Rg.getD 0 0)).toInt), .int .i64 (((Rg.getD 1 0)).toInt), .int .i64 (((Rg.getD 2 0)).toInt), .int .i64 (((Rg.getD 3 0)).toInt), .int .i64 (((Rg.getD 4 0)).toInt), .int .i64 (((Rg.getD 5 0)).toInt), .int .i64 (((Rg.getD 6 0)).toInt), .int .i64 (((Rg.getD 7 0)).toInt)]) rfl rfl ?_
  intro b_1
  refine s_e rfl ?_
  refine e_alloc (l := [.int .i64 0, .int .i64 0, .int .i64 0, .int .i64 0, .int .i64 0, .int .i64 0, .int .i64 0, .int .i64 0]) Try.zeroValue199 rfl ?_
  intro b_2
  refine s_y (v := .slice none 0 0) (y_assign rfl) rfl ?_
  refine wpL_nil ?_
  refine thenS_n ?_
  refine wpS_seq ?_
  refine wpS_seq ?_
  refine wpS_region ?_
  refine s_y (v := .int .i64 0) (y_assign rfl) rfl ?_
  refine wpL_nil ?_
  refine thenS_n ?_
  refine wpS_block ?_
  refine wpS_loop (fun mez ds σ L => ∃ i : Nat, mez = gn - i ∧ (i ≤ gn) ∧ ds = [] ∧ σ 0 = .slice ga gn gc ∧ σ 2 = .slice none 0 0 ∧ σ 3 = .int .i64 0 ∧ σ 5 = .pointer (some ⟨b_1, 0, none⟩) ∧ σ 8 = .pointer (some ⟨b_2, 0, none⟩) ∧ σ 10 = .int .i64 (((i : Nat) : Int)) ∧ Ent L [cel b_2 199 [.int .i64 0, .int .i64 0, .int .i64 0, .int .i64 0, .int .i64 0, .int .i64 0, .int .i64 0, .int .i64 0], cel b_1 199 (arrV ((runM 0 ⟨Rg, []⟩ (l.take i)).r))]) (m0 := gn - 0) ⟨0, rfl, by omega, rfl, rfl, rfl, rfl, rfl, rfl, rfl, .p .h (.p .h .nil)⟩ ?_
  rintro mez ds σ L ⟨i, hm_3, hf0_3, rfl, h0_3, h2_3, h3_3, h5_3, h8_3, h10_3, hE_3⟩
  refine wpS_ent hE_3 ?_; clear hE_3
  refine wpS_seq ?_
  refine wpS_seq ?_
  refine wpS_region ?_
  refine s_y (v := .int .i64 (((i : Nat) : Int))) (y_move h10_3) rfl ?_
  refine s_y (v := .slice ga gn gc) (y_move h0_3) rfl ?_
  refine s_y (v := .int .i64 (((gn : Nat) : Int))) (y_len (ty' := 0) (at_ := #[]) rfl Try.underlying82) rfl ?_
  refine s_y (v := .bool (decide (i < gn))) (y_lss (a := ((i : Nat) : Int)) (b := ((gn : Nat) : Int)) (c := decide (i < gn)) rfl rfl (decide_eq_decide.2 (by omega))) rfl ?_
  refine wpL_nil ?_
  refine thenS_n ?_
  refine wpS_cond (t := decide (i < gn)) rfl (fun b4 => ?_) (fun b4 => ?_)
  · -- decide (i < gn) true
    have p4 := of_decide_eq_true b4
    have hop := part_at hp (i := i) (by omega)
    obtain ⟨ho1, ho2, ho3, ho4, ho5, ho6, ho7, ho8, ho9, ho10⟩ := op_regs hop
    have hn12 : ¬ (l.getD i default).o0 = 12 := fun h => by have h2 := op_slot hop h; omega
    have hrk : (runM 0 ⟨Rg, []⟩ (l.take i)).r.length = 8 := (runM_r _ _ _).trans hR
    have hst := runM_step (q := 0) (m := ⟨Rg, []⟩) (l := l) (i := i) (by omega)
    refine wpS_skip ?_
    refine thenS_n ?_
    refine wpS_seq ?_
    refine wpS_block ?_
    refine wpS_seq ?_
    refine wpS_region ?_
    refine s_y (v := .slice ga gn gc) (y_move h0_3) rfl ?_
    refine s_y (v := .int .i64 (((i : Nat) : Int))) (y_move h10_3) rfl ?_
    refine s_y (v := .pointer (some ⟨aB ga, aO ga + i * 6, none⟩)) (y_idx (o := i * 6) rfl rfl Try.underlying82 Try.sizeOf86 (oldR hr) ((fl_len opcV_len _).trans (by first | omega | (simp only [List.length_set, List.length_take, List.length_drop]; done) | (simp only [List.length_set, List.length_take, List.length_drop]; omega))) (by decide) (by omega) (by omega) (by omega)) rfl ?_
    refine s_y (v := .agg #[.int .i64 ((l.getD i default).o0), .int .i64 ((l.getD i default).o1), .int .i64 ((l.getD i default).o2), .int .i64 ((l.getD i default).o3), .int .i64 ((l.getD i default).o4), .int .i64 (((l.getD i default).o5).toInt)]) (y_loadN (vs := opcV (l.getD i default)) rfl Try.isAgg86 Try.sizeOf86 (rdN (oldR hr) (fl_getN opcV_len l i (by first | omega | (simp only [List.length_set, List.length_take, List.length_drop]; done) | (simp only [List.length_set, List.length_take, List.length_drop]; omega))))) rfl ?_
    refine s_e rfl ?_
    refine e_alloc (l := [.int .i64 0, .int .i64 0, .int .i64 0, .int .i64 0, .int .i64 0, .int .i64 0]) Try.zeroValue86 rfl ?_
    intro b_5
    refine s_e0 ?_
    refine e_store (vs := [.int .i64 ((l.getD i default).o0), .int .i64 ((l.getD i default).o1), .int .i64 ((l.getD i default).o2), .int .i64 ((l.getD i default).o3), .int .i64 ((l.getD i default).o4), .int .i64 (((l.getD i default).o5).toInt)]) (l' := [.int .i64 ((l.getD i default).o0), .int .i64 ((l.getD i default).o1), .int .i64 ((l.getD i default).o2), .int .i64 ((l.getD i default).o3), .int .i64 ((l.getD i default).o4), .int .i64 (((l.getD i default).o5).toInt)]) rfl rfl rfl rfl Try.sizeOf86 .h (Nat.le_of_ble_eq_true rfl) rfl ?_
    refine wpL_nil ?_
    refine thenS_n ?_
    refine wpS_seq ?_
    refine wpS_lex (by kernel_rfl) (by kernel_rfl) ?_
    refine x_y (v := .pointer (some ⟨b_5, 2, none⟩)) (y_fieldAddr (o' := 2) rfl Try.underlying86 rfl Try.sizeOf3 (by decide) rfl) rfl ?_
    refine x_y (v := .int .i64 ((l.getD i default).o2)) (y_load1 rfl Try.isAgg3 (own1 .h rfl)) rfl ?_
    refine x_y (v := .pointer (some ⟨b_1, 0 + (((l.getD i default).o2).toNat) * 1, none⟩)) (y_idxA (o' := 0 + (((l.getD i default).o2).toNat) * 1) h5_3 rfl Try.underlying199 Try.sizeOf2 (by omega) (by omega) (by omega)) rfl ?_
    refine x_y (v := .int .i64 (((((runM 0 ⟨Rg, []⟩ (l.take i)).r).getD (((l.getD i default).o2).toNat) 0)).toInt)) (y_load1 (v := .int .i64 (((((runM 0 ⟨Rg, []⟩ (l.take i)).r).getD (((l.getD i default).o2).toNat) 0)).toInt)) rfl Try.isAgg2 (own1 (.t (.t .h)) (arr_get (by omega)))) rfl ?_
    refine x_y (v := .pointer (some ⟨b_5, 3, none⟩)) (y_fieldAddr (o' := 3) rfl Try.underlying86 rfl Try.sizeOf3 (by decide) rfl) rfl ?_
    refine x_y (v := .int .i64 ((l.getD i default).o3)) (y_load1 rfl Try.isAgg3 (own1 .h rfl)) rfl ?_
    refine x_y (v := .pointer (some ⟨b_1, 0 + (((l.getD i default).o3).toNat) * 1, none⟩)) (y_idxA (o' := 0 + (((l.getD i default).o3).toNat) * 1) h5_3 rfl Try.underlying199 Try.sizeOf2 (by omega) (by omega) (by omega)) rfl ?_
    refine x_y (v := .int .i64 (((((runM 0 ⟨Rg, []⟩ (l.take i)).r).getD (((l.getD i default).o3).toNat) 0)).toInt)) (y_load1 (v := .int .i64 (((((runM 0 ⟨Rg, []⟩ (l.take i)).r).getD (((l.getD i default).o3).toNat) 0)).toInt)) rfl Try.isAgg2 (own1 (.t (.t .h)) (arr_get (by omega)))) rfl ?_
    refine x_y (v := .pointer (some ⟨b_5, 4, none⟩)) (y_fieldAddr (o' := 4) rfl Try.underlying86 rfl Try.sizeOf3 (by decide) rfl) rfl ?_
    refine x_y (v := .int .i64 ((l.getD i default).o4)) (y_load1 rfl Try.isAgg3 (own1 .h rfl)) rfl ?_
    refine x_y (v := .pointer (some ⟨b_1, 0 + (((l.getD i default).o4).toNat) * 1, none⟩)) (y_idxA (o' := 0 + (((l.getD i default).o4).toNat) * 1) h5_3 rfl Try.underlying199 Try.sizeOf2 (by omega) (by omega) (by omega)) rfl ?_
    refine x_y (v := .int .i64 (((((runM 0 ⟨Rg, []⟩ (l.take i)).r).getD (((l.getD i default).o4).toNat) 0)).toInt)) (y_load1 (v := .int .i64 (((((runM 0 ⟨Rg, []⟩ (l.take i)).r).getD (((l.getD i default).o4).toNat) 0)).toInt)) rfl Try.isAgg2 (own1 (.t (.t .h)) (arr_get (by omega)))) rfl ?_
    refine x_y (v := .int .i64 (((((runM 0 ⟨Rg, []⟩ (l.take i)).r).getD (((l.getD i default).o2).toNat) 0)).toInt)) (y_assign rfl) rfl ?_
    refine x_y (v := .int .i64 (((((runM 0 ⟨Rg, []⟩ (l.take i)).r).getD (((l.getD i default).o3).toNat) 0)).toInt)) (y_assign rfl) rfl ?_
    refine x_y (v := .int .i64 (((((runM 0 ⟨Rg, []⟩ (l.take i)).r).getD (((l.getD i default).o4).toNat) 0)).toInt)) (y_assign rfl) rfl ?_
    refine x_nil ?_
    refine thenS_n ?_
    refine wpS_seq ?_
    refine wpS_region ?_
    refine s_y (v := .pointer (some ⟨b_5, 0, none⟩)) (y_fieldAddr (o' := 0) rfl Try.underlying86 rfl Try.sizeOf3 (by decide) rfl) rfl ?_
    refine s_y (v := .int .i64 ((l.getD i default).o0)) (y_load1 rfl Try.isAgg3 (own1 .h rfl)) rfl ?_
    refine wpL_nil ?_
    refine thenS_n ?_
    refine wpS_block ?_
    refine wpS_seq ?_
    refine wpS_region ?_
    refine s_y (v := .bool (decide (((l.getD i default).o0 : Int) = 1))) (y_eql (a := (l.getD i default).o0) (b := 1) rfl rfl rfl) rfl ?_
    refine s_y (v := .bool (decide (((l.getD i default).o0 : Int) = 1))) (y_assign rfl) rfl ?_
    refine wpL_nil ?_
    refine thenS_n ?_
    refine wpS_cond (t := decide (((l.getD i default).o0 : Int) = 1)) rfl (fun b6 => ?_) (fun b6 => ?_)
    · -- decide (((l.getD i default).o0 : Int) = 1) true
      have p6 := of_decide_eq_true b6
      have ho0 : (l.getD i default).o0 = 1 := by omega
      refine wpS_region ?_
      refine s_y (v := .pointer (some ⟨b_5, 1, none⟩)) (y_fieldAddr (o' := 1) rfl Try.underlying86 rfl Try.sizeOf3 (by decide) rfl) rfl ?_
      refine s_y (v := .int .i64 ((l.getD i default).o1)) (y_load1 rfl Try.isAgg3 (own1 .h rfl)) rfl ?_
      refine s_y (v := .pointer (some ⟨b_5, 5, none⟩)) (y_fieldAddr (o' := 5) rfl Try.underlying86 rfl Try.sizeOf2 (by decide) rfl) rfl ?_
      refine s_y (v := .int .i64 (((l.getD i default).o5).toInt)) (y_load1 rfl Try.isAgg2 (own1 .h rfl)) rfl ?_
      refine s_y (v := .pointer (some ⟨b_1, 0 + (((l.getD i default).o1).toNat) * 1, none⟩)) (y_idxA (o' := 0 + (((l.getD i default).o1).toNat) * 1) h5_3 rfl Try.underlying199 Try.sizeOf2 (by omega) (by omega) (by omega)) rfl ?_
      refine s_e0 ?_
      have hem1 : (runM 0 ⟨Rg, []⟩ (l.take i)).r.set (((l.getD i default).o1).toNat) ((l.getD i default).o5) = (runM 0 ⟨Rg, []⟩ (l.take (i + 1))).r := by
        rw [hst]; unfold stepM; rw [if_neg (by omega)]
        refine congrArg (List.set _ _) (Eq.symm ?_)
        show madeV _ _ _ _ = _
        unfold madeV
        first | (rw [ho0]; first | rfl | exact if_neg (by assumption) | exact if_pos (Decidable.not_not.1 (by assumption))) | (rw [show (l.getD i default).o0 = 11 by omega]; rfl)
      refine e_store (vs := [.int .i64 (((l.getD i default).o5).toInt)]) (l' := (arrV ((runM 0 ⟨Rg, []⟩ (l.take (i + 1))).r))) rfl rfl rfl rfl Try.sizeOf2 (.t (.t .h)) (by show _ ≤ 8; simp only [List.length_singleton]; omega) (arr_set hrk (by omega) hem1) ?_
      refine wpL_nil ?_
      refine blockS_n ?_
      refine blockS_n ?_
      refine thenS_n ?_
      refine wpS_region ?_
      refine s_y (v := .int .i64 (((i : Nat) : Int))) (y_move h10_3) rfl ?_
      refine s_y (v := .int .i64 ((((i + 1) : Nat) : Int))) (y_add (a := ((i : Nat) : Int)) (b := 1) (c := (((i + 1) : Nat) : Int)) rfl rfl (wI (by omega) (by omega) (by omega))) rfl ?_
      refine s_y (v := .int .i64 ((((i + 1) : Nat) : Int))) (y_assign rfl) rfl ?_
      refine wpL_nil ?_
      refine thenS_n ?_
      exact ⟨_, by omega, ⟨(i + 1), rfl, by omega, rfl, h0_3, h2_3, h3_3, h5_3, h8_3, rfl, .p (.t (.t .h)) (.p .h .nil)⟩⟩
    · -- decide (((l.getD i default).o0 : Int) = 1) false
      have p6 := of_decide_eq_false b6
      refine wpS_seq ?_
      refine wpS_region ?_
      refine s_y (v := .bool (decide (((l.getD i default).o0 : Int) = 2))) (y_eql (a := (l.getD i default).o0) (b := 2) rfl rfl rfl) rfl ?_
      refine s_y (v := .bool (decide (((l.getD i default).o0 : Int) = 2))) (y_assign rfl) rfl ?_
      refine wpL_nil ?_
      refine thenS_n ?_
      refine wpS_cond (t := decide (((l.getD i default).o0 : Int) = 2)) rfl (fun b7 => ?_) (fun b7 => ?_)
      · -- decide (((l.getD i default).o0 : Int) = 2) true
        have p7 := of_decide_eq_true b7
        have ho0 : (l.getD i default).o0 = 2 := by omega
        refine wpS_region ?_
        refine s_y (v := .pointer (some ⟨b_5, 1, none⟩)) (y_fieldAddr (o' := 1) rfl Try.underlying86 rfl Try.sizeOf3 (by decide) rfl) rfl ?_
        refine s_y (v := .int .i64 ((l.getD i default).o1)) (y_load1 rfl Try.isAgg3 (own1 .h rfl)) rfl ?_
        refine s_y (v := .int .i64 (((((runM 0 ⟨Rg, []⟩ (l.take i)).r).getD (((l.getD i default).o2).toNat) 0)).toInt)) (y_move rfl) rfl ?_
        refine s_y (v := .int .i64 (((((runM 0 ⟨Rg, []⟩ (l.take i)).r).getD (((l.getD i default).o3).toNat) 0)).toInt)) (y_move rfl) rfl ?_
        refine s_y (v := .int .i64 ((((((runM 0 ⟨Rg, []⟩ (l.take i)).r).getD (((l.getD i default).o2).toNat) 0) + (((runM 0 ⟨Rg, []⟩ (l.take i)).r).getD (((l.getD i default).o3).toNat) 0))).toInt)) (y_add (a := ((((runM 0 ⟨Rg, []⟩ (l.take i)).r).getD (((l.getD i default).o2).toNat) 0)).toInt) (b := ((((runM 0 ⟨Rg, []⟩ (l.take i)).r).getD (((l.getD i default).o3).toNat) 0)).toInt) (c := (((((runM 0 ⟨Rg, []⟩ (l.take i)).r).getD (((l.getD i default).o2).toNat) 0) + (((runM 0 ⟨Rg, []⟩ (l.take i)).r).getD (((l.getD i default).o3).toNat) 0))).toInt) rfl rfl (i_add _ _)) rfl ?_
        refine s_y (v := .pointer (some ⟨b_1, 0 + (((l.getD i default).o1).toNat) * 1, none⟩)) (y_idxA (o' := 0 + (((l.getD i default).o1).toNat) * 1) h5_3 rfl Try.underlying199 Try.sizeOf2 (by omega) (by omega) (by omega)) rfl ?_
        refine s_e0 ?_
        have hem1 : (runM 0 ⟨Rg, []⟩ (l.take i)).r.set (((l.getD i default).o1).toNat) ((((runM 0 ⟨Rg, []⟩ (l.take i)).r).getD (((l.getD i default).o2).toNat) 0) + (((runM 0 ⟨Rg, []⟩ (l.take i)).r).getD (((l.getD i default).o3).toNat) 0)) = (runM 0 ⟨Rg, []⟩ (l.take (i + 1))).r := by
          rw [hst]; unfold stepM; rw [if_neg (by omega)]
          refine congrArg (List.set _ _) (Eq.symm ?_)
          show madeV _ _ _ _ = _
          unfold madeV
          first | (rw [ho0]; first | rfl | exact if_neg (by assumption) | exact if_pos (Decidable.not_not.1 (by assumption))) | (rw [show (l.getD i default).o0 = 11 by omega]; rfl)
        refine e_store (vs := [.int .i64 ((((((runM 0 ⟨Rg, []⟩ (l.take i)).r).getD (((l.getD i default).o2).toNat) 0) + (((runM 0 ⟨Rg, []⟩ (l.take i)).r).getD (((l.getD i default).o3).toNat) 0))).toInt)]) (l' := (arrV ((runM 0 ⟨Rg, []⟩ (l.take (i + 1))).r))) rfl rfl rfl rfl Try.sizeOf2 (.t (.t .h)) (by show _ ≤ 8; simp only [List.length_singleton]; omega) (arr_set hrk (by omega) hem1) ?_
        refine wpL_nil ?_
        refine blockS_n ?_
        refine blockS_n ?_
        refine thenS_n ?_
        refine wpS_region ?_
        refine s_y (v := .int .i64 (((i : Nat) : Int))) (y_move h10_3) rfl ?_
        refine s_y (v := .int .i64 ((((i + 1) : Nat) : Int))) (y_add (a := ((i : Nat) : Int)) (b := 1) (c := (((i + 1) : Nat) : Int)) rfl rfl (wI (by omega) (by omega) (by omega))) rfl ?_
        refine s_y (v := .int .i64 ((((i + 1) : Nat) : Int))) (y_assign rfl) rfl ?_
        refine wpL_nil ?_
        refine thenS_n ?_
        exact ⟨_, by omega, ⟨(i + 1), rfl, by omega, rfl, h0_3, h2_3, h3_3, h5_3, h8_3, rfl, .p (.t (.t .h)) (.p .h .nil)⟩⟩
      · -- decide (((l.getD i default).o0 : Int) = 2) false
        have p7 := of_decide_eq_false b7
        refine wpS_seq ?_
        refine wpS_region ?_
        refine s_y (v := .bool (decide (((l.getD i default).o0 : Int) = 3))) (y_eql (a := (l.getD i default).o0) (b := 3) rfl rfl rfl) rfl ?_
        refine s_y (v := .bool (decide (((l.getD i default).o0 : Int) = 3))) (y_assign rfl) rfl ?_
        refine wpL_nil ?_
        refine thenS_n ?_
        refine wpS_cond (t := decide (((l.getD i default).o0 : Int) = 3)) rfl (fun b8 => ?_) (fun b8 => ?_)
        · -- decide (((l.getD i default).o0 : Int) = 3) true
          have p8 := of_decide_eq_true b8
          have ho0 : (l.getD i default).o0 = 3 := by omega
          refine wpS_region ?_
          refine s_y (v := .pointer (some ⟨b_5, 1, none⟩)) (y_fieldAddr (o' := 1) rfl Try.underlying86 rfl Try.sizeOf3 (by decide) rfl) rfl ?_
          refine s_y (v := .int .i64 ((l.getD i default).o1)) (y_load1 rfl Try.isAgg3 (own1 .h rfl)) rfl ?_
          refine s_y (v := .int .i64 (((((runM 0 ⟨Rg, []⟩ (l.take i)).r).getD (((l.getD i default).o2).toNat) 0)).toInt)) (y_move rfl) rfl ?_
          refine s_y (v := .int .i64 (((((runM 0 ⟨Rg, []⟩ (l.take i)).r).getD (((l.getD i default).o3).toNat) 0)).toInt)) (y_move rfl) rfl ?_
          refine s_y (v := .int .i64 ((((((runM 0 ⟨Rg, []⟩ (l.take i)).r).getD (((l.getD i default).o2).toNat) 0) - (((runM 0 ⟨Rg, []⟩ (l.take i)).r).getD (((l.getD i default).o3).toNat) 0))).toInt)) (y_sub (a := ((((runM 0 ⟨Rg, []⟩ (l.take i)).r).getD (((l.getD i default).o2).toNat) 0)).toInt) (b := ((((runM 0 ⟨Rg, []⟩ (l.take i)).r).getD (((l.getD i default).o3).toNat) 0)).toInt) (c := (((((runM 0 ⟨Rg, []⟩ (l.take i)).r).getD (((l.getD i default).o2).toNat) 0) - (((runM 0 ⟨Rg, []⟩ (l.take i)).r).getD (((l.getD i default).o3).toNat) 0))).toInt) rfl rfl (i_sub _ _)) rfl ?_
          refine s_y (v := .pointer (some ⟨b_1, 0 + (((l.getD i default).o1).toNat) * 1, none⟩)) (y_idxA (o' := 0 + (((l.getD i default).o1).toNat) * 1) h5_3 rfl Try.underlying199 Try.sizeOf2 (by omega) (by omega) (by omega)) rfl ?_
          refine s_e0 ?_
          have hem1 : (runM 0 ⟨Rg, []⟩ (l.take i)).r.set (((l.getD i default).o1).toNat) ((((runM 0 ⟨Rg, []⟩ (l.take i)).r).getD (((l.getD i default).o2).toNat) 0) - (((runM 0 ⟨Rg, []⟩ (l.take i)).r).getD (((l.getD i default).o3).toNat) 0)) = (runM 0 ⟨Rg, []⟩ (l.take (i + 1))).r := by
            rw [hst]; unfold stepM; rw [if_neg (by omega)]
            refine congrArg (List.set _ _) (Eq.symm ?_)
            show madeV _ _ _ _ = _
            unfold madeV
            first | (rw [ho0]; first | rfl | exact if_neg (by assumption) | exact if_pos (Decidable.not_not.1 (by assumption))) | (rw [show (l.getD i default).o0 = 11 by omega]; rfl)
          refine e_store (vs := [.int .i64 ((((((runM 0 ⟨Rg, []⟩ (l.take i)).r).getD (((l.getD i default).o2).toNat) 0) - (((runM 0 ⟨Rg, []⟩ (l.take i)).r).getD (((l.getD i default).o3).toNat) 0))).toInt)]) (l' := (arrV ((runM 0 ⟨Rg, []⟩ (l.take (i + 1))).r))) rfl rfl rfl rfl Try.sizeOf2 (.t (.t .h)) (by show _ ≤ 8; simp only [List.length_singleton]; omega) (arr_set hrk (by omega) hem1) ?_
          refine wpL_nil ?_
          refine blockS_n ?_
          refine blockS_n ?_
          refine thenS_n ?_
          refine wpS_region ?_
          refine s_y (v := .int .i64 (((i : Nat) : Int))) (y_move h10_3) rfl ?_
          refine s_y (v := .int .i64 ((((i + 1) : Nat) : Int))) (y_add (a := ((i : Nat) : Int)) (b := 1) (c := (((i + 1) : Nat) : Int)) rfl rfl (wI (by omega) (by omega) (by omega))) rfl ?_
          refine s_y (v := .int .i64 ((((i + 1) : Nat) : Int))) (y_assign rfl) rfl ?_
          refine wpL_nil ?_
          refine thenS_n ?_
          exact ⟨_, by omega, ⟨(i + 1), rfl, by omega, rfl, h0_3, h2_3, h3_3, h5_3, h8_3, rfl, .p (.t (.t .h)) (.p .h .nil)⟩⟩
        · -- decide (((l.getD i default).o0 : Int) = 3) false
          have p8 := of_decide_eq_false b8
          refine wpS_seq ?_
          refine wpS_region ?_
          refine s_y (v := .bool (decide (((l.getD i default).o0 : Int) = 4))) (y_eql (a := (l.getD i default).o0) (b := 4) rfl rfl rfl) rfl ?_
          refine s_y (v := .bool (decide (((l.getD i default).o0 : Int) = 4))) (y_assign rfl) rfl ?_
          refine wpL_nil ?_
          refine thenS_n ?_
          refine wpS_cond (t := decide (((l.getD i default).o0 : Int) = 4)) rfl (fun b9 => ?_) (fun b9 => ?_)
          · -- decide (((l.getD i default).o0 : Int) = 4) true
            have p9 := of_decide_eq_true b9
            have ho0 : (l.getD i default).o0 = 4 := by omega
            refine wpS_region ?_
            refine s_y (v := .pointer (some ⟨b_5, 1, none⟩)) (y_fieldAddr (o' := 1) rfl Try.underlying86 rfl Try.sizeOf3 (by decide) rfl) rfl ?_
            refine s_y (v := .int .i64 ((l.getD i default).o1)) (y_load1 rfl Try.isAgg3 (own1 .h rfl)) rfl ?_
            refine s_y (v := .int .i64 (((((runM 0 ⟨Rg, []⟩ (l.take i)).r).getD (((l.getD i default).o2).toNat) 0)).toInt)) (y_move rfl) rfl ?_
            refine s_y (v := .int .i64 (((((runM 0 ⟨Rg, []⟩ (l.take i)).r).getD (((l.getD i default).o3).toNat) 0)).toInt)) (y_move rfl) rfl ?_
            refine s_y (v := .int .i64 ((((((runM 0 ⟨Rg, []⟩ (l.take i)).r).getD (((l.getD i default).o2).toNat) 0) * (((runM 0 ⟨Rg, []⟩ (l.take i)).r).getD (((l.getD i default).o3).toNat) 0))).toInt)) (y_mul (a := ((((runM 0 ⟨Rg, []⟩ (l.take i)).r).getD (((l.getD i default).o2).toNat) 0)).toInt) (b := ((((runM 0 ⟨Rg, []⟩ (l.take i)).r).getD (((l.getD i default).o3).toNat) 0)).toInt) (c := (((((runM 0 ⟨Rg, []⟩ (l.take i)).r).getD (((l.getD i default).o2).toNat) 0) * (((runM 0 ⟨Rg, []⟩ (l.take i)).r).getD (((l.getD i default).o3).toNat) 0))).toInt) rfl rfl (i_mul _ _)) rfl ?_
            refine s_y (v := .pointer (some ⟨b_1, 0 + (((l.getD i default).o1).toNat) * 1, none⟩)) (y_idxA (o' := 0 + (((l.getD i default).o1).toNat) * 1) h5_3 rfl Try.underlying199 Try.sizeOf2 (by omega) (by omega) (by omega)) rfl ?_
            refine s_e0 ?_
            have hem1 : (runM 0 ⟨Rg, []⟩ (l.take i)).r.set (((l.getD i default).o1).toNat) ((((runM 0 ⟨Rg, []⟩ (l.take i)).r).getD (((l.getD i default).o2).toNat) 0) * (((runM 0 ⟨Rg, []⟩ (l.take i)).r).getD (((l.getD i default).o3).toNat) 0)) = (runM 0 ⟨Rg, []⟩ (l.take (i + 1))).r := by
              rw [hst]; unfold stepM; rw [if_neg (by omega)]
              refine congrArg (List.set _ _) (Eq.symm ?_)
              show madeV _ _ _ _ = _
              unfold madeV
              first | (rw [ho0]; first | rfl | exact if_neg (by assumption) | exact if_pos (Decidable.not_not.1 (by assumption))) | (rw [show (l.getD i default).o0 = 11 by omega]; rfl)
            refine e_store (vs := [.int .i64 ((((((runM 0 ⟨Rg, []⟩ (l.take i)).r).getD (((l.getD i default).o2).toNat) 0) * (((runM 0 ⟨Rg, []⟩ (l.take i)).r).getD (((l.getD i default).o3).toNat) 0))).toInt)]) (l' := (arrV ((runM 0 ⟨Rg, []⟩ (l.take (i + 1))).r))) rfl rfl rfl rfl Try.sizeOf2 (.t (.t .h)) (by show _ ≤ 8; simp only [List.length_singleton]; omega) (arr_set hrk (by omega) hem1) ?_
            refine wpL_nil ?_
            refine blockS_n ?_
            refine blockS_n ?_
            refine thenS_n ?_
            refine wpS_region ?_
            refine s_y (v := .int .i64 (((i : Nat) : Int))) (y_move h10_3) rfl ?_
            refine s_y (v := .int .i64 ((((i + 1) : Nat) : Int))) (y_add (a := ((i : Nat) : Int)) (b := 1) (c := (((i + 1) : Nat) : Int)) rfl rfl (wI (by omega) (by omega) (by omega))) rfl ?_
            refine s_y (v := .int .i64 ((((i + 1) : Nat) : Int))) (y_assign rfl) rfl ?_
            refine wpL_nil ?_
            refine thenS_n ?_
            exact ⟨_, by omega, ⟨(i + 1), rfl, by omega, rfl, h0_3, h2_3, h3_3, h5_3, h8_3, rfl, .p (.t (.t .h)) (.p .h .nil)⟩⟩
          · -- decide (((l.getD i default).o0 : Int) = 4) false
            have p9 := of_decide_eq_false b9
            refine wpS_seq ?_
            refine wpS_region ?_
            refine s_y (v := .bool (decide (((l.getD i default).o0 : Int) = 5))) (y_eql (a := (l.getD i default).o0) (b := 5) rfl rfl rfl) rfl ?_
            refine s_y (v := .bool (decide (((l.getD i default).o0 : Int) = 5))) (y_assign rfl) rfl ?_
            refine wpL_nil ?_
            refine thenS_n ?_
            refine wpS_cond (t := decide (((l.getD i default).o0 : Int) = 5)) rfl (fun b10 => ?_) (fun b10 => ?_)
            · -- decide (((l.getD i default).o0 : Int) = 5) true
              have p10 := of_decide_eq_true b10
              have ho0 : (l.getD i default).o0 = 5 := by omega
              refine wpS_region ?_
              refine s_y (v := .pointer (some ⟨b_5, 1, none⟩)) (y_fieldAddr (o' := 1) rfl Try.underlying86 rfl Try.sizeOf3 (by decide) rfl) rfl ?_
              refine s_y (v := .int .i64 ((l.getD i default).o1)) (y_load1 rfl Try.isAgg3 (own1 .h rfl)) rfl ?_
              refine s_y (v := .int .i64 (((((runM 0 ⟨Rg, []⟩ (l.take i)).r).getD (((l.getD i default).o2).toNat) 0)).toInt)) (y_move rfl) rfl ?_
              refine s_y (v := .int .i64 (((((runM 0 ⟨Rg, []⟩ (l.take i)).r).getD (((l.getD i default).o3).toNat) 0)).toInt)) (y_move rfl) rfl ?_
              refine s_y (v := .int .i64 ((((((runM 0 ⟨Rg, []⟩ (l.take i)).r).getD (((l.getD i default).o2).toNat) 0) &&& (((runM 0 ⟨Rg, []⟩ (l.take i)).r).getD (((l.getD i default).o3).toNat) 0))).toInt)) (y_and (a := ((((runM 0 ⟨Rg, []⟩ (l.take i)).r).getD (((l.getD i default).o2).toNat) 0)).toInt) (b := ((((runM 0 ⟨Rg, []⟩ (l.take i)).r).getD (((l.getD i default).o3).toNat) 0)).toInt) (c := (((((runM 0 ⟨Rg, []⟩ (l.take i)).r).getD (((l.getD i default).o2).toNat) 0) &&& (((runM 0 ⟨Rg, []⟩ (l.take i)).r).getD (((l.getD i default).o3).toNat) 0))).toInt) rfl rfl (i_and _ _)) rfl ?_
              refine s_y (v := .pointer (some ⟨b_1, 0 + (((l.getD i default).o1).toNat) * 1, none⟩)) (y_idxA (o' := 0 + (((l.getD i default).o1).toNat) * 1) h5_3 rfl Try.underlying199 Try.sizeOf2 (by omega) (by omega) (by omega)) rfl ?_
              refine s_e0 ?_
              have hem1 : (runM 0 ⟨Rg, []⟩ (l.take i)).r.set (((l.getD i default).o1).toNat) ((((runM 0 ⟨Rg, []⟩ (l.take i)).r).getD (((l.getD i default).o2).toNat) 0) &&& (((runM 0 ⟨Rg, []⟩ (l.take i)).r).getD (((l.getD i default).o3).toNat) 0)) = (runM 0 ⟨Rg, []⟩ (l.take (i + 1))).r := by
                rw [hst]; unfold stepM; rw [if_neg (by omega)]
                refine congrArg (List.set _ _) (Eq.symm ?_)
                show madeV _ _ _ _ = _
                unfold madeV
                first | (rw [ho0]; first | rfl | exact if_neg (by assumption) | exact if_pos (Decidable.not_not.1 (by assumption))) | (rw [show (l.getD i default).o0 = 11 by omega]; rfl)
              refine e_store (vs := [.int .i64 ((((((runM 0 ⟨Rg, []⟩ (l.take i)).r).getD (((l.getD i default).o2).toNat) 0) &&& (((runM 0 ⟨Rg, []⟩ (l.take i)).r).getD (((l.getD i default).o3).toNat) 0))).toInt)]) (l' := (arrV ((runM 0 ⟨Rg, []⟩ (l.take (i + 1))).r))) rfl rfl rfl rfl Try.sizeOf2 (.t (.t .h)) (by show _ ≤ 8; simp only [List.length_singleton]; omega) (arr_set hrk (by omega) hem1) ?_
              refine wpL_nil ?_
              refine blockS_n ?_
              refine blockS_n ?_
              refine thenS_n ?_
              refine wpS_region ?_
              refine s_y (v := .int .i64 (((i : Nat) : Int))) (y_move h10_3) rfl ?_
              refine s_y (v := .int .i64 ((((i + 1) : Nat) : Int))) (y_add (a := ((i : Nat) : Int)) (b := 1) (c := (((i + 1) : Nat) : Int)) rfl rfl (wI (by omega) (by omega) (by omega))) rfl ?_
              refine s_y (v := .int .i64 ((((i + 1) : Nat) : Int))) (y_assign rfl) rfl ?_
              refine wpL_nil ?_
              refine thenS_n ?_
              exact ⟨_, by omega, ⟨(i + 1), rfl, by omega, rfl, h0_3, h2_3, h3_3, h5_3, h8_3, rfl, .p (.t (.t .h)) (.p .h .nil)⟩⟩
            · -- decide (((l.getD i default).o0 : Int) = 5) false
              have p10 := of_decide_eq_false b10
              refine wpS_seq ?_
              refine wpS_region ?_
              refine s_y (v := .bool (decide (((l.getD i default).o0 : Int) = 6))) (y_eql (a := (l.getD i default).o0) (b := 6) rfl rfl rfl) rfl ?_
              refine s_y (v := .bool (decide (((l.getD i default).o0 : Int) = 6))) (y_assign rfl) rfl ?_
              refine wpL_nil ?_
              refine thenS_n ?_
              refine wpS_cond (t := decide (((l.getD i default).o0 : Int) = 6)) rfl (fun b11 => ?_) (fun b11 => ?_)
              · -- decide (((l.getD i default).o0 : Int) = 6) true
                have p11 := of_decide_eq_true b11
                have ho0 : (l.getD i default).o0 = 6 := by omega
                refine wpS_region ?_
                refine s_y (v := .pointer (some ⟨b_5, 1, none⟩)) (y_fieldAddr (o' := 1) rfl Try.underlying86 rfl Try.sizeOf3 (by decide) rfl) rfl ?_
                refine s_y (v := .int .i64 ((l.getD i default).o1)) (y_load1 rfl Try.isAgg3 (own1 .h rfl)) rfl ?_
                refine s_y (v := .int .i64 (((((runM 0 ⟨Rg, []⟩ (l.take i)).r).getD (((l.getD i default).o2).toNat) 0)).toInt)) (y_move rfl) rfl ?_
                refine s_y (v := .int .i64 (((((runM 0 ⟨Rg, []⟩ (l.take i)).r).getD (((l.getD i default).o3).toNat) 0)).toInt)) (y_move rfl) rfl ?_
                refine s_y (v := .int .i64 ((((((runM 0 ⟨Rg, []⟩ (l.take i)).r).getD (((l.getD i default).o2).toNat) 0) ||| (((runM 0 ⟨Rg, []⟩ (l.take i)).r).getD (((l.getD i default).o3).toNat) 0))).toInt)) (y_or (a := ((((runM 0 ⟨Rg, []⟩ (l.take i)).r).getD (((l.getD i default).o2).toNat) 0)).toInt) (b := ((((runM 0 ⟨Rg, []⟩ (l.take i)).r).getD (((l.getD i default).o3).toNat) 0)).toInt) (c := (((((runM 0 ⟨Rg, []⟩ (l.take i)).r).getD (((l.getD i default).o2).toNat) 0) ||| (((runM 0 ⟨Rg, []⟩ (l.take i)).r).getD (((l.getD i default).o3).toNat) 0))).toInt) rfl rfl (i_or _ _)) rfl ?_
                refine s_y (v := .pointer (some ⟨b_1, 0 + (((l.getD i default).o1).toNat) * 1, none⟩)) (y_idxA (o' := 0 + (((l.getD i default).o1).toNat) * 1) h5_3 rfl Try.underlying199 Try.sizeOf2 (by omega) (by omega) (by omega)) rfl ?_
                refine s_e0 ?_
                have hem1 : (runM 0 ⟨Rg, []⟩ (l.take i)).r.set (((l.getD i default).o1).toNat) ((((runM 0 ⟨Rg, []⟩ (l.take i)).r).getD (((l.getD i default).o2).toNat) 0) ||| (((runM 0 ⟨Rg, []⟩ (l.take i)).r).getD (((l.getD i default).o3).toNat) 0)) = (runM 0 ⟨Rg, []⟩ (l.take (i + 1))).r := by
                  rw [hst]; unfold stepM; rw [if_neg (by omega)]
                  refine congrArg (List.set _ _) (Eq.symm ?_)
                  show madeV _ _ _ _ = _
                  unfold madeV
                  first | (rw [ho0]; first | rfl | exact if_neg (by assumption) | exact if_pos (Decidable.not_not.1 (by assumption))) | (rw [show (l.getD i default).o0 = 11 by omega]; rfl)
                refine e_store (vs := [.int .i64 ((((((runM 0 ⟨Rg, []⟩ (l.take i)).r).getD (((l.getD i default).o2).toNat) 0) ||| (((runM 0 ⟨Rg, []⟩ (l.take i)).r).getD (((l.getD i default).o3).toNat) 0))).toInt)]) (l' := (arrV ((runM 0 ⟨Rg, []⟩ (l.take (i + 1))).r))) rfl rfl rfl rfl Try.sizeOf2 (.t (.t .h)) (by show _ ≤ 8; simp only [List.length_singleton]; omega) (arr_set hrk (by omega) hem1) ?_
                refine wpL_nil ?_
                refine blockS_n ?_
                refine blockS_n ?_
                refine thenS_n ?_
                refine wpS_region ?_
                refine s_y (v := .int .i64 (((i : Nat) : Int))) (y_move h10_3) rfl ?_
                refine s_y (v := .int .i64 ((((i + 1) : Nat) : Int))) (y_add (a := ((i : Nat) : Int)) (b := 1) (c := (((i + 1) : Nat) : Int)) rfl rfl (wI (by omega) (by omega) (by omega))) rfl ?_
                refine s_y (v := .int .i64 ((((i + 1) : Nat) : Int))) (y_assign rfl) rfl ?_
                refine wpL_nil ?_
                refine thenS_n ?_
                exact ⟨_, by omega, ⟨(i + 1), rfl, by omega, rfl, h0_3, h2_3, h3_3, h5_3, h8_3, rfl, .p (.t (.t .h)) (.p .h .nil)⟩⟩
              · -- decide (((l.getD i default).o0 : Int) = 6) false
                have p11 := of_decide_eq_false b11
                refine wpS_seq ?_
                refine wpS_region ?_
                refine s_y (v := .bool (decide (((l.getD i default).o0 : Int) = 7))) (y_eql (a := (l.getD i default).o0) (b := 7) rfl rfl rfl) rfl ?_
                refine s_y (v := .bool (decide (((l.getD i default).o0 : Int) = 7))) (y_assign rfl) rfl ?_
                refine wpL_nil ?_
                refine thenS_n ?_
                refine wpS_cond (t := decide (((l.getD i default).o0 : Int) = 7)) rfl (fun b12 => ?_) (fun b12 => ?_)
                · -- decide (((l.getD i default).o0 : Int) = 7) true
                  have p12 := of_decide_eq_true b12
                  have ho0 : (l.getD i default).o0 = 7 := by omega
                  refine wpS_region ?_
                  refine s_y (v := .pointer (some ⟨b_5, 1, none⟩)) (y_fieldAddr (o' := 1) rfl Try.underlying86 rfl Try.sizeOf3 (by decide) rfl) rfl ?_
                  refine s_y (v := .int .i64 ((l.getD i default).o1)) (y_load1 rfl Try.isAgg3 (own1 .h rfl)) rfl ?_
                  refine s_y (v := .int .i64 (((((runM 0 ⟨Rg, []⟩ (l.take i)).r).getD (((l.getD i default).o2).toNat) 0)).toInt)) (y_move rfl) rfl ?_
                  refine s_y (v := .int .i64 (((((runM 0 ⟨Rg, []⟩ (l.take i)).r).getD (((l.getD i default).o3).toNat) 0)).toInt)) (y_move rfl) rfl ?_
                  refine s_y (v := .int .i64 ((((((runM 0 ⟨Rg, []⟩ (l.take i)).r).getD (((l.getD i default).o2).toNat) 0) ^^^ (((runM 0 ⟨Rg, []⟩ (l.take i)).r).getD (((l.getD i default).o3).toNat) 0))).toInt)) (y_xor (a := ((((runM 0 ⟨Rg, []⟩ (l.take i)).r).getD (((l.getD i default).o2).toNat) 0)).toInt) (b := ((((runM 0 ⟨Rg, []⟩ (l.take i)).r).getD (((l.getD i default).o3).toNat) 0)).toInt) (c := (((((runM 0 ⟨Rg, []⟩ (l.take i)).r).getD (((l.getD i default).o2).toNat) 0) ^^^ (((runM 0 ⟨Rg, []⟩ (l.take i)).r).getD (((l.getD i default).o3).toNat) 0))).toInt) rfl rfl (i_xor _ _)) rfl ?_
                  refine s_y (v := .pointer (some ⟨b_1, 0 + (((l.getD i default).o1).toNat) * 1, none⟩)) (y_idxA (o' := 0 + (((l.getD i default).o1).toNat) * 1) h5_3 rfl Try.underlying199 Try.sizeOf2 (by omega) (by omega) (by omega)) rfl ?_
                  refine s_e0 ?_
                  have hem1 : (runM 0 ⟨Rg, []⟩ (l.take i)).r.set (((l.getD i default).o1).toNat) ((((runM 0 ⟨Rg, []⟩ (l.take i)).r).getD (((l.getD i default).o2).toNat) 0) ^^^ (((runM 0 ⟨Rg, []⟩ (l.take i)).r).getD (((l.getD i default).o3).toNat) 0)) = (runM 0 ⟨Rg, []⟩ (l.take (i + 1))).r := by
                    rw [hst]; unfold stepM; rw [if_neg (by omega)]
                    refine congrArg (List.set _ _) (Eq.symm ?_)
                    show madeV _ _ _ _ = _
                    unfold madeV
                    first | (rw [ho0]; first | rfl | exact if_neg (by assumption) | exact if_pos (Decidable.not_not.1 (by assumption))) | (rw [show (l.getD i default).o0 = 11 by omega]; rfl)
                  refine e_store (vs := [.int .i64 ((((((runM 0 ⟨Rg, []⟩ (l.take i)).r).getD (((l.getD i default).o2).toNat) 0) ^^^ (((runM 0 ⟨Rg, []⟩ (l.take i)).r).getD (((l.getD i default).o3).toNat) 0))).toInt)]) (l' := (arrV ((runM 0 ⟨Rg, []⟩ (l.take (i + 1))).r))) rfl rfl rfl rfl Try.sizeOf2 (.t (.t .h)) (by show _ ≤ 8; simp only [List.length_singleton]; omega) (arr_set hrk (by omega) hem1) ?_
                  refine wpL_nil ?_
                  refine blockS_n ?_
                  refine blockS_n ?_
                  refine thenS_n ?_
                  refine wpS_region ?_
                  refine s_y (v := .int .i64 (((i : Nat) : Int))) (y_move h10_3) rfl ?_
                  refine s_y (v := .int .i64 ((((i + 1) : Nat) : Int))) (y_add (a := ((i : Nat) : Int)) (b := 1) (c := (((i + 1) : Nat) : Int)) rfl rfl (wI (by omega) (by omega) (by omega))) rfl ?_
                  refine s_y (v := .int .i64 ((((i + 1) : Nat) : Int))) (y_assign rfl) rfl ?_
                  refine wpL_nil ?_
                  refine thenS_n ?_
                  exact ⟨_, by omega, ⟨(i + 1), rfl, by omega, rfl, h0_3, h2_3, h3_3, h5_3, h8_3, rfl, .p (.t (.t .h)) (.p .h .nil)⟩⟩
                · -- decide (((l.getD i default).o0 : Int) = 7) false
                  have p12 := of_decide_eq_false b12
                  refine wpS_seq ?_
                  refine wpS_region ?_
                  refine s_y (v := .bool (decide (((l.getD i default).o0 : Int) = 8))) (y_eql (a := (l.getD i default).o0) (b := 8) rfl rfl rfl) rfl ?_
                  refine s_y (v := .bool (decide (((l.getD i default).o0 : Int) = 8))) (y_assign rfl) rfl ?_
                  refine wpL_nil ?_
                  refine thenS_n ?_
                  refine wpS_cond (t := decide (((l.getD i default).o0 : Int) = 8)) rfl (fun b13 => ?_) (fun b13 => ?_)
                  · -- decide (((l.getD i default).o0 : Int) = 8) true
                    have p13 := of_decide_eq_true b13
                    have ho0 : (l.getD i default).o0 = 8 := by omega
                    refine wpS_anyL [cel b_5 86 [.int .i64 ((l.getD i default).o0), .int .i64 ((l.getD i default).o1), .int .i64 ((l.getD i default).o2), .int .i64 ((l.getD i default).o3), .int .i64 ((l.getD i default).o4), .int .i64 (((l.getD i default).o5).toInt)]] [] (by kernel_rfl) ?_
                    refine anyS_take (i := 0) rfl (by kernel_rfl) (by kernel_rfl) (by kernel_rfl) (by kernel_rfl) (Yq.of (v := .pointer (some ⟨b_5, 1, none⟩)) (y_fieldAddr (o' := 1) rfl Try.underlying86 rfl Try.sizeOf3 (by decide) rfl) rfl) (.p .h .nil) ?_
                    refine anyS_take (i := 1) rfl (by kernel_rfl) (by kernel_rfl) (by kernel_rfl) (by kernel_rfl) (Yq.of (v := .int .i64 ((l.getD i default).o1)) (y_load1 rfl Try.isAgg3 (own1 .h rfl)) rfl) (.p .h .nil) ?_
                    refine anyS_take (i := 2) rfl (by kernel_rfl) (by kernel_rfl) (by kernel_rfl) (by kernel_rfl) (Yq.of (v := .int .i64 (((((runM 0 ⟨Rg, []⟩ (l.take i)).r).getD (((l.getD i default).o2).toNat) 0)).toInt)) (y_move rfl) rfl) (.p .h .nil) ?_
                    refine anyS_take (i := 3) rfl (by kernel_rfl) (by kernel_rfl) (by kernel_rfl) (by kernel_rfl) (Yq.of (v := .int .i64 (((((runM 0 ⟨Rg, []⟩ (l.take i)).r).getD (((l.getD i default).o3).toNat) 0)).toInt)) (y_move rfl) rfl) (.p .h .nil) ?_
                    refine anyS_take (i := 4) rfl (by kernel_rfl) (by kernel_rfl) (by kernel_rfl) (by kernel_rfl) (Yq.of (v := .bool (decide ((((runM 0 ⟨Rg, []⟩ (l.take i)).r).getD (((l.getD i default).o2).toNat) 0) < (((runM 0 ⟨Rg, []⟩ (l.take i)).r).getD (((l.getD i default).o3).toNat) 0)))) (y_lss (a := ((((runM 0 ⟨Rg, []⟩ (l.take i)).r).getD (((l.getD i default).o2).toNat) 0)).toInt) (b := ((((runM 0 ⟨Rg, []⟩ (l.take i)).r).getD (((l.getD i default).o3).toNat) 0)).toInt) (c := decide ((((runM 0 ⟨Rg, []⟩ (l.take i)).r).getD (((l.getD i default).o2).toNat) 0) < (((runM 0 ⟨Rg, []⟩ (l.take i)).r).getD (((l.getD i default).o3).toNat) 0))) rfl rfl (i_lss _ _)) rfl) (.p .h .nil) ?_
                    refine anyS_take (i := 5) rfl (by kernel_rfl) (by kernel_rfl) (by kernel_rfl) (by kernel_rfl) (Yq.of (v := .int .i64 (((one64 (decide ((((runM 0 ⟨Rg, []⟩ (l.take i)).r).getD (((l.getD i default).o2).toNat) 0) < (((runM 0 ⟨Rg, []⟩ (l.take i)).r).getD (((l.getD i default).o3).toNat) 0))))).toInt)) (y_call (args := #[.bool (decide ((((runM 0 ⟨Rg, []⟩ (l.take i)).r).getD (((l.getD i default).o2).toNat) 0) < (((runM 0 ⟨Rg, []⟩ (l.take i)).r).getD (((l.getD i default).o3).toNat) 0)))]) (v := .int .i64 (((one64 (decide ((((runM 0 ⟨Rg, []⟩ (l.take i)).r).getD (((l.getD i default).o2).toNat) 0) < (((runM 0 ⟨Rg, []⟩ (l.take i)).r).getD (((l.getD i default).o3).toNat) 0))))).toInt)) Try.call242 (ev1 rfl) (fun w hs => rone_c (decide ((((runM 0 ⟨Rg, []⟩ (l.take i)).r).getD (((l.getD i default).o2).toNat) 0) < (((runM 0 ⟨Rg, []⟩ (l.take i)).r).getD (((l.getD i default).o3).toNat) 0))) w)) rfl) (.p .h .nil) ?_
                    refine anyS_take (i := 6) rfl (by kernel_rfl) (by kernel_rfl) (by kernel_rfl) (by kernel_rfl) (Yq.of (v := .pointer (some ⟨b_1, 0 + (((l.getD i default).o1).toNat) * 1, none⟩)) (y_idxA (o' := 0 + (((l.getD i default).o1).toNat) * 1) h5_3 rfl Try.underlying199 Try.sizeOf2 (by omega) (by omega) (by omega)) rfl) (.p .h .nil) ?_
                    refine anyS_all (rs := [7]) (by kernel_rfl) (by simp) ?_
                    intro i hi; obtain rfl := List.mem_singleton.1 hi; clear hi
                    refine opS_0 rfl rfl ?_
                    have hem1 : (runM 0 ⟨Rg, []⟩ (l.take i)).r.set (((l.getD i default).o1).toNat) (one64 (decide ((((runM 0 ⟨Rg, []⟩ (l.take i)).r).getD (((l.getD i default).o2).toNat) 0) < (((runM 0 ⟨Rg, []⟩ (l.take i)).r).getD (((l.getD i default).o3).toNat) 0)))) = (runM 0 ⟨Rg, []⟩ (l.take (i + 1))).r := by
                      rw [hst]; unfold stepM; rw [if_neg (by omega)]
                      refine congrArg (List.set _ _) (Eq.symm ?_)
                      show madeV _ _ _ _ = _
                      unfold madeV
                      first | (rw [ho0]; first | rfl | exact if_neg (by assumption) | exact if_pos (Decidable.not_not.1 (by assumption))) | (rw [show (l.getD i default).o0 = 11 by omega]; rfl)
                    refine e_store (vs := [.int .i64 (((one64 (decide ((((runM 0 ⟨Rg, []⟩ (l.take i)).r).getD (((l.getD i default).o2).toNat) 0) < (((runM 0 ⟨Rg, []⟩ (l.take i)).r).getD (((l.getD i default).o3).toNat) 0))))).toInt)]) (l' := (arrV ((runM 0 ⟨Rg, []⟩ (l.take (i + 1))).r))) rfl rfl rfl rfl Try.sizeOf2 (.t (.t .h)) (by show _ ≤ 8; simp only [List.length_singleton]; omega) (arr_set hrk (by omega) hem1) ?_
                    refine ⟨.inr (.p (.t .h) .nil), ?_⟩
                    refine anyS_done (by kernel_rfl) ?_
                    refine blockS_n ?_
                    refine blockS_n ?_
                    refine thenS_n ?_
                    refine wpS_region ?_
                    refine s_y (v := .int .i64 (((i : Nat) : Int))) (y_move h10_3) rfl ?_
                    refine s_y (v := .int .i64 ((((i + 1) : Nat) : Int))) (y_add (a := ((i : Nat) : Int)) (b := 1) (c := (((i + 1) : Nat) : Int)) rfl rfl (wI (by omega) (by omega) (by omega))) rfl ?_
                    refine s_y (v := .int .i64 ((((i + 1) : Nat) : Int))) (y_assign rfl) rfl ?_
                    refine wpL_nil ?_
                    refine thenS_n ?_
                    exact ⟨_, by omega, ⟨(i + 1), rfl, by omega, rfl, h0_3, h2_3, h3_3, h5_3, h8_3, rfl, .p (.t (.t .h)) (.p .h .nil)⟩⟩
                  · -- decide (((l.getD i default).o0 : Int) = 8) false
                    have p13 := of_decide_eq_false b13
                    refine wpS_seq ?_
                    refine wpS_region ?_
                    refine s_y (v := .bool (decide (((l.getD i default).o0 : Int) = 9))) (y_eql (a := (l.getD i default).o0) (b := 9) rfl rfl rfl) rfl ?_
                    refine s_y (v := .bool (decide (((l.getD i default).o0 : Int) = 9))) (y_assign rfl) rfl ?_
                    refine wpL_nil ?_
                    refine thenS_n ?_
                    refine wpS_cond (t := decide (((l.getD i default).o0 : Int) = 9)) rfl (fun b14 => ?_) (fun b14 => ?_)
                    · -- decide (((l.getD i default).o0 : Int) = 9) true
                      have p14 := of_decide_eq_true b14
                      have ho0 : (l.getD i default).o0 = 9 := by omega
                      refine wpS_anyL [cel b_5 86 [.int .i64 ((l.getD i default).o0), .int .i64 ((l.getD i default).o1), .int .i64 ((l.getD i default).o2), .int .i64 ((l.getD i default).o3), .int .i64 ((l.getD i default).o4), .int .i64 (((l.getD i default).o5).toInt)]] [] (by kernel_rfl) ?_
                      refine anyS_take (i := 0) rfl (by kernel_rfl) (by kernel_rfl) (by kernel_rfl) (by kernel_rfl) (Yq.of (v := .pointer (some ⟨b_5, 1, none⟩)) (y_fieldAddr (o' := 1) rfl Try.underlying86 rfl Try.sizeOf3 (by decide) rfl) rfl) (.p .h .nil) ?_
                      refine anyS_take (i := 1) rfl (by kernel_rfl) (by kernel_rfl) (by kernel_rfl) (by kernel_rfl) (Yq.of (v := .int .i64 ((l.getD i default).o1)) (y_load1 rfl Try.isAgg3 (own1 .h rfl)) rfl) (.p .h .nil) ?_
                      refine anyS_take (i := 2) rfl (by kernel_rfl) (by kernel_rfl) (by kernel_rfl) (by kernel_rfl) (Yq.of (v := .int .i64 (((((runM 0 ⟨Rg, []⟩ (l.take i)).r).getD (((l.getD i default).o2).toNat) 0)).toInt)) (y_move rfl) rfl) (.p .h .nil) ?_
                      refine anyS_take (i := 3) rfl (by kernel_rfl) (by kernel_rfl) (by kernel_rfl) (by kernel_rfl) (Yq.of (v := .int .i64 (((((runM 0 ⟨Rg, []⟩ (l.take i)).r).getD (((l.getD i default).o3).toNat) 0)).toInt)) (y_move rfl) rfl) (.p .h .nil) ?_
                      refine anyS_take (i := 4) rfl (by kernel_rfl) (by kernel_rfl) (by kernel_rfl) (by kernel_rfl) (Yq.of (v := .bool (decide ((((runM 0 ⟨Rg, []⟩ (l.take i)).r).getD (((l.getD i default).o2).toNat) 0) = (((runM 0 ⟨Rg, []⟩ (l.take i)).r).getD (((l.getD i default).o3).toNat) 0)))) (y_eql (a := ((((runM 0 ⟨Rg, []⟩ (l.take i)).r).getD (((l.getD i default).o2).toNat) 0)).toInt) (b := ((((runM 0 ⟨Rg, []⟩ (l.take i)).r).getD (((l.getD i default).o3).toNat) 0)).toInt) (c := decide ((((runM 0 ⟨Rg, []⟩ (l.take i)).r).getD (((l.getD i default).o2).toNat) 0) = (((runM 0 ⟨Rg, []⟩ (l.take i)).r).getD (((l.getD i default).o3).toNat) 0))) rfl rfl (i_eql _ _)) rfl) (.p .h .nil) ?_
                      refine anyS_take (i := 5) rfl (by kernel_rfl) (by kernel_rfl) (by kernel_rfl) (by kernel_rfl) (Yq.of (v := .int .i64 (((one64 (decide ((((runM 0 ⟨Rg, []⟩ (l.take i)).r).getD (((l.getD i default).o2).toNat) 0) = (((runM 0 ⟨Rg, []⟩ (l.take i)).r).getD (((l.getD i default).o3).toNat) 0))))).toInt)) (y_call (args := #[.bool (decide ((((runM 0 ⟨Rg, []⟩ (l.take i)).r).getD (((l.getD i default).o2).toNat) 0) = (((runM 0 ⟨Rg, []⟩ (l.take i)).r).getD (((l.getD i default).o3).toNat) 0)))]) (v := .int .i64 (((one64 (decide ((((runM 0 ⟨Rg, []⟩ (l.take i)).r).getD (((l.getD i default).o2).toNat) 0) = (((runM 0 ⟨Rg, []⟩ (l.take i)).r).getD (((l.getD i default).o3).toNat) 0))))).toInt)) Try.call242 (ev1 rfl) (fun w hs => rone_c (decide ((((runM 0 ⟨Rg, []⟩ (l.take i)).r).getD (((l.getD i default).o2).toNat) 0) = (((runM 0 ⟨Rg, []⟩ (l.take i)).r).getD (((l.getD i default).o3).toNat) 0))) w)) rfl) (.p .h .nil) ?_
                      refine anyS_take (i := 6) rfl (by kernel_rfl) (by kernel_rfl) (by kernel_rfl) (by kernel_rfl) (Yq.of (v := .pointer (some ⟨b_1, 0 + (((l.getD i default).o1).toNat) * 1, none⟩)) (y_idxA (o' := 0 + (((l.getD i default).o1).toNat) * 1) h5_3 rfl Try.underlying199 Try.sizeOf2 (by omega) (by omega) (by omega)) rfl) (.p .h .nil) ?_
                      refine anyS_all (rs := [7]) (by kernel_rfl) (by simp) ?_
                      intro i hi; obtain rfl := List.mem_singleton.1 hi; clear hi
                      refine opS_0 rfl rfl ?_
                      have hem1 : (runM 0 ⟨Rg, []⟩ (l.take i)).r.set (((l.getD i default).o1).toNat) (one64 (decide ((((runM 0 ⟨Rg, []⟩ (l.take i)).r).getD (((l.getD i default).o2).toNat) 0) = (((runM 0 ⟨Rg, []⟩ (l.take i)).r).getD (((l.getD i default).o3).toNat) 0)))) = (runM 0 ⟨Rg, []⟩ (l.take (i + 1))).r := by
                        rw [hst]; unfold stepM; rw [if_neg (by omega)]
                        refine congrArg (List.set _ _) (Eq.symm ?_)
                        show madeV _ _ _ _ = _
                        unfold madeV
                        first | (rw [ho0]; first | rfl | exact if_neg (by assumption) | exact if_pos (Decidable.not_not.1 (by assumption))) | (rw [show (l.getD i default).o0 = 11 by omega]; rfl)
                      refine e_store (vs := [.int .i64 (((one64 (decide ((((runM 0 ⟨Rg, []⟩ (l.take i)).r).getD (((l.getD i default).o2).toNat) 0) = (((runM 0 ⟨Rg, []⟩ (l.take i)).r).getD (((l.getD i default).o3).toNat) 0))))).toInt)]) (l' := (arrV ((runM 0 ⟨Rg, []⟩ (l.take (i + 1))).r))) rfl rfl rfl rfl Try.sizeOf2 (.t (.t .h)) (by show _ ≤ 8; simp only [List.length_singleton]; omega) (arr_set hrk (by omega) hem1) ?_
                      refine ⟨.inr (.p (.t .h) .nil), ?_⟩
                      refine anyS_done (by kernel_rfl) ?_
                      refine blockS_n ?_
                      refine blockS_n ?_
                      refine thenS_n ?_
                      refine wpS_region ?_
                      refine s_y (v := .int .i64 (((i : Nat) : Int))) (y_move h10_3) rfl ?_
                      refine s_y (v := .int .i64 ((((i + 1) : Nat) : Int))) (y_add (a := ((i : Nat) : Int)) (b := 1) (c := (((i + 1) : Nat) : Int)) rfl rfl (wI (by omega) (by omega) (by omega))) rfl ?_
                      refine s_y (v := .int .i64 ((((i + 1) : Nat) : Int))) (y_assign rfl) rfl ?_
                      refine wpL_nil ?_
                      refine thenS_n ?_
                      exact ⟨_, by omega, ⟨(i + 1), rfl, by omega, rfl, h0_3, h2_3, h3_3, h5_3, h8_3, rfl, .p (.t (.t .h)) (.p .h .nil)⟩⟩
                    · -- decide (((l.getD i default).o0 : Int) = 9) false
                      have p14 := of_decide_eq_false b14
                      refine wpS_seq ?_
                      refine wpS_region ?_
                      refine s_y (v := .bool (decide (((l.getD i default).o0 : Int) = 10))) (y_eql (a := (l.getD i default).o0) (b := 10) rfl rfl rfl) rfl ?_
                      refine s_y (v := .bool (decide (((l.getD i default).o0 : Int) = 10))) (y_assign rfl) rfl ?_
                      refine wpL_nil ?_
                      refine thenS_n ?_
                      refine wpS_cond (t := decide (((l.getD i default).o0 : Int) = 10)) rfl (fun b15 => ?_) (fun b15 => ?_)
                      · -- decide (((l.getD i default).o0 : Int) = 10) true
                        have p15 := of_decide_eq_true b15
                        have ho0 : (l.getD i default).o0 = 10 := by omega
                        refine wpS_seq ?_
                        refine wpS_region ?_
                        refine s_y (v := .int .i64 (((((runM 0 ⟨Rg, []⟩ (l.take i)).r).getD (((l.getD i default).o2).toNat) 0)).toInt)) (y_move rfl) rfl ?_
                        refine s_y (v := .bool (decide ((((runM 0 ⟨Rg, []⟩ (l.take i)).r).getD (((l.getD i default).o2).toNat) 0) ≠ 0))) (y_neq (a := ((((runM 0 ⟨Rg, []⟩ (l.take i)).r).getD (((l.getD i default).o2).toNat) 0)).toInt) (b := 0) (c := decide ((((runM 0 ⟨Rg, []⟩ (l.take i)).r).getD (((l.getD i default).o2).toNat) 0) ≠ 0)) rfl rfl (i_neqL _ 0 (by decide))) rfl ?_
                        refine wpL_nil ?_
                        refine thenS_n ?_
                        refine wpS_cond (t := decide ((((runM 0 ⟨Rg, []⟩ (l.take i)).r).getD (((l.getD i default).o2).toNat) 0) ≠ 0)) rfl (fun b16 => ?_) (fun b16 => ?_)
                        · -- decide ((((runM 0 ⟨Rg, []⟩ (l.take i)).r).getD (((l.getD i default).o2).toNat) 0) ≠ 0) true
                          have p16 := of_decide_eq_true b16
                          refine wpS_region ?_
                          refine s_y (v := .pointer (some ⟨b_5, 1, none⟩)) (y_fieldAddr (o' := 1) rfl Try.underlying86 rfl Try.sizeOf3 (by decide) rfl) rfl ?_
                          refine s_y (v := .int .i64 ((l.getD i default).o1)) (y_load1 rfl Try.isAgg3 (own1 .h rfl)) rfl ?_
                          refine s_y (v := .int .i64 (((((runM 0 ⟨Rg, []⟩ (l.take i)).r).getD (((l.getD i default).o3).toNat) 0)).toInt)) (y_move rfl) rfl ?_
                          refine s_y (v := .pointer (some ⟨b_1, 0 + (((l.getD i default).o1).toNat) * 1, none⟩)) (y_idxA (o' := 0 + (((l.getD i default).o1).toNat) * 1) h5_3 rfl Try.underlying199 Try.sizeOf2 (by omega) (by omega) (by omega)) rfl ?_
                          refine s_e0 ?_
                          have hem1 : (runM 0 ⟨Rg, []⟩ (l.take i)).r.set (((l.getD i default).o1).toNat) (((runM 0 ⟨Rg, []⟩ (l.take i)).r).getD (((l.getD i default).o3).toNat) 0) = (runM 0 ⟨Rg, []⟩ (l.take (i + 1))).r := by
                            rw [hst]; unfold stepM; rw [if_neg (by omega)]
                            refine congrArg (List.set _ _) (Eq.symm ?_)
                            show madeV _ _ _ _ = _
                            unfold madeV
                            first | (rw [ho0]; first | rfl | exact if_neg (by assumption) | exact if_pos (Decidable.not_not.1 (by assumption))) | (rw [show (l.getD i default).o0 = 11 by omega]; rfl)
                          refine e_store (vs := [.int .i64 (((((runM 0 ⟨Rg, []⟩ (l.take i)).r).getD (((l.getD i default).o3).toNat) 0)).toInt)]) (l' := (arrV ((runM 0 ⟨Rg, []⟩ (l.take (i + 1))).r))) rfl rfl rfl rfl Try.sizeOf2 (.t (.t .h)) (by show _ ≤ 8; simp only [List.length_singleton]; omega) (arr_set hrk (by omega) hem1) ?_
                          refine wpL_nil ?_
                          refine blockS_n ?_
                          refine blockS_n ?_
                          refine thenS_n ?_
                          refine wpS_region ?_
                          refine s_y (v := .int .i64 (((i : Nat) : Int))) (y_move h10_3) rfl ?_
                          refine s_y (v := .int .i64 ((((i + 1) : Nat) : Int))) (y_add (a := ((i : Nat) : Int)) (b := 1) (c := (((i + 1) : Nat) : Int)) rfl rfl (wI (by omega) (by omega) (by omega))) rfl ?_
                          refine s_y (v := .int .i64 ((((i + 1) : Nat) : Int))) (y_assign rfl) rfl ?_
                          refine wpL_nil ?_
                          refine thenS_n ?_
                          exact ⟨_, by omega, ⟨(i + 1), rfl, by omega, rfl, h0_3, h2_3, h3_3, h5_3, h8_3, rfl, .p (.t (.t .h)) (.p .h .nil)⟩⟩
                        · -- decide ((((runM 0 ⟨Rg, []⟩ (l.take i)).r).getD (((l.getD i default).o2).toNat) 0) ≠ 0) false
                          have p16 := of_decide_eq_false b16
                          refine wpS_region ?_
                          refine s_y (v := .pointer (some ⟨b_5, 1, none⟩)) (y_fieldAddr (o' := 1) rfl Try.underlying86 rfl Try.sizeOf3 (by decide) rfl) rfl ?_
                          refine s_y (v := .int .i64 ((l.getD i default).o1)) (y_load1 rfl Try.isAgg3 (own1 .h rfl)) rfl ?_
                          refine s_y (v := .int .i64 (((((runM 0 ⟨Rg, []⟩ (l.take i)).r).getD (((l.getD i default).o4).toNat) 0)).toInt)) (y_move rfl) rfl ?_
                          refine s_y (v := .pointer (some ⟨b_1, 0 + (((l.getD i default).o1).toNat) * 1, none⟩)) (y_idxA (o' := 0 + (((l.getD i default).o1).toNat) * 1) h5_3 rfl Try.underlying199 Try.sizeOf2 (by omega) (by omega) (by omega)) rfl ?_
                          refine s_e0 ?_
                          have hem1 : (runM 0 ⟨Rg, []⟩ (l.take i)).r.set (((l.getD i default).o1).toNat) (((runM 0 ⟨Rg, []⟩ (l.take i)).r).getD (((l.getD i default).o4).toNat) 0) = (runM 0 ⟨Rg, []⟩ (l.take (i + 1))).r := by
                            rw [hst]; unfold stepM; rw [if_neg (by omega)]
                            refine congrArg (List.set _ _) (Eq.symm ?_)
                            show madeV _ _ _ _ = _
                            unfold madeV
                            first | (rw [ho0]; first | rfl | exact if_neg (by assumption) | exact if_pos (Decidable.not_not.1 (by assumption))) | (rw [show (l.getD i default).o0 = 11 by omega]; rfl)
                          refine e_store (vs := [.int .i64 (((((runM 0 ⟨Rg, []⟩ (l.take i)).r).getD (((l.getD i default).o4).toNat) 0)).toInt)]) (l' := (arrV ((runM 0 ⟨Rg, []⟩ (l.take (i + 1))).r))) rfl rfl rfl rfl Try.sizeOf2 (.t (.t .h)) (by show _ ≤ 8; simp only [List.length_singleton]; omega) (arr_set hrk (by omega) hem1) ?_
                          refine wpL_nil ?_
                          refine blockS_n ?_
                          refine blockS_n ?_
                          refine thenS_n ?_
                          refine wpS_region ?_
                          refine s_y (v := .int .i64 (((i : Nat) : Int))) (y_move h10_3) rfl ?_
                          refine s_y (v := .int .i64 ((((i + 1) : Nat) : Int))) (y_add (a := ((i : Nat) : Int)) (b := 1) (c := (((i + 1) : Nat) : Int)) rfl rfl (wI (by omega) (by omega) (by omega))) rfl ?_
                          refine s_y (v := .int .i64 ((((i + 1) : Nat) : Int))) (y_assign rfl) rfl ?_
                          refine wpL_nil ?_
                          refine thenS_n ?_
                          exact ⟨_, by omega, ⟨(i + 1), rfl, by omega, rfl, h0_3, h2_3, h3_3, h5_3, h8_3, rfl, .p (.t (.t .h)) (.p .h .nil)⟩⟩
                      · -- decide (((l.getD i default).o0 : Int) = 10) false
                        have p15 := of_decide_eq_false b15
                        refine wpS_seq ?_
                        refine wpS_region ?_
                        refine s_y (v := .bool (decide (((l.getD i default).o0 : Int) = 11))) (y_eql (a := (l.getD i default).o0) (b := 11) rfl rfl rfl) rfl ?_
                        refine s_y (v := .bool (decide (((l.getD i default).o0 : Int) = 11))) (y_assign rfl) rfl ?_
                        refine wpL_nil ?_
                        refine thenS_n ?_
                        refine wpS_cond_T (t := decide (((l.getD i default).o0 : Int) = 11)) rfl (decide_eq_true (by omega)) ?_
                        refine wpS_region ?_
                        refine s_y (v := .pointer (some ⟨b_5, 1, none⟩)) (y_fieldAddr (o' := 1) rfl Try.underlying86 rfl Try.sizeOf3 (by decide) rfl) rfl ?_
                        refine s_y (v := .int .i64 ((l.getD i default).o1)) (y_load1 rfl Try.isAgg3 (own1 .h rfl)) rfl ?_
                        refine s_y (v := .int .i64 (((((runM 0 ⟨Rg, []⟩ (l.take i)).r).getD (((l.getD i default).o2).toNat) 0)).toInt)) (y_move rfl) rfl ?_
                        refine s_y (v := .int .i64 (((((runM 0 ⟨Rg, []⟩ (l.take i)).r).getD (((l.getD i default).o3).toNat) 0)).toInt)) (y_move rfl) rfl ?_
                        refine s_y (v := .int .i64 ((((((runM 0 ⟨Rg, []⟩ (l.take i)).r).getD (((l.getD i default).o3).toNat) 0) &&& 63)).toInt)) (y_and (a := ((((runM 0 ⟨Rg, []⟩ (l.take i)).r).getD (((l.getD i default).o3).toNat) 0)).toInt) (b := 63) (c := (((((runM 0 ⟨Rg, []⟩ (l.take i)).r).getD (((l.getD i default).o3).toNat) 0) &&& 63)).toInt) rfl rfl (i_and (((runM 0 ⟨Rg, []⟩ (l.take i)).r).getD (((l.getD i default).o3).toNat) 0) 63)) rfl ?_
                        refine s_y (v := .int .u64 ((((((runM 0 ⟨Rg, []⟩ (l.take i)).r).getD (((l.getD i default).o3).toNat) 0) &&& 63).toUInt64).toNat)) (y_convI (a := (((((runM 0 ⟨Rg, []⟩ (l.take i)).r).getD (((l.getD i default).o3).toNat) 0) &&& 63)).toInt) (c := (((((runM 0 ⟨Rg, []⟩ (l.take i)).r).getD (((l.getD i default).o3).toNat) 0) &&& 63).toUInt64).toNat) rfl Try.underlying2 Try.underlying46 (iu_conv _)) rfl ?_
                        refine s_y (v := .int .i64 ((((((runM 0 ⟨Rg, []⟩ (l.take i)).r).getD (((l.getD i default).o2).toNat) 0) >>> ((((runM 0 ⟨Rg, []⟩ (l.take i)).r).getD (((l.getD i default).o3).toNat) 0) &&& 63))).toInt)) (y_shr (a := ((((runM 0 ⟨Rg, []⟩ (l.take i)).r).getD (((l.getD i default).o2).toNat) 0)).toInt) (b := (((((runM 0 ⟨Rg, []⟩ (l.take i)).r).getD (((l.getD i default).o3).toNat) 0) &&& 63).toUInt64).toNat) (c := (((((runM 0 ⟨Rg, []⟩ (l.take i)).r).getD (((l.getD i default).o2).toNat) 0) >>> ((((runM 0 ⟨Rg, []⟩ (l.take i)).r).getD (((l.getD i default).o3).toNat) 0) &&& 63))).toInt) rfl rfl (by omega) (i_sar (((runM 0 ⟨Rg, []⟩ (l.take i)).r).getD (((l.getD i default).o2).toNat) 0) (((runM 0 ⟨Rg, []⟩ (l.take i)).r).getD (((l.getD i default).o3).toNat) 0))) rfl ?_
                        refine s_y (v := .pointer (some ⟨b_1, 0 + (((l.getD i default).o1).toNat) * 1, none⟩)) (y_idxA (o' := 0 + (((l.getD i default).o1).toNat) * 1) h5_3 rfl Try.underlying199 Try.sizeOf2 (by omega) (by omega) (by omega)) rfl ?_
                        refine s_e0 ?_
                        have hem1 : (runM 0 ⟨Rg, []⟩ (l.take i)).r.set (((l.getD i default).o1).toNat) ((((runM 0 ⟨Rg, []⟩ (l.take i)).r).getD (((l.getD i default).o2).toNat) 0) >>> ((((runM 0 ⟨Rg, []⟩ (l.take i)).r).getD (((l.getD i default).o3).toNat) 0) &&& 63)) = (runM 0 ⟨Rg, []⟩ (l.take (i + 1))).r := by
                          rw [hst]; unfold stepM; rw [if_neg (by omega)]
                          refine congrArg (List.set _ _) (Eq.symm ?_)
                          show madeV _ _ _ _ = _
                          unfold madeV
                          first | (rw [ho0]; first | rfl | exact if_neg (by assumption) | exact if_pos (Decidable.not_not.1 (by assumption))) | (rw [show (l.getD i default).o0 = 11 by omega]; rfl)
                        refine e_store (vs := [.int .i64 ((((((runM 0 ⟨Rg, []⟩ (l.take i)).r).getD (((l.getD i default).o2).toNat) 0) >>> ((((runM 0 ⟨Rg, []⟩ (l.take i)).r).getD (((l.getD i default).o3).toNat) 0) &&& 63))).toInt)]) (l' := (arrV ((runM 0 ⟨Rg, []⟩ (l.take (i + 1))).r))) rfl rfl rfl rfl Try.sizeOf2 (.t (.t .h)) (by show _ ≤ 8; simp only [List.length_singleton]; omega) (arr_set hrk (by omega) hem1) ?_
                        refine wpL_nil ?_
                        refine blockS_n ?_
                        refine blockS_n ?_
                        refine thenS_n ?_
                        refine wpS_region ?_
                        refine s_y (v := .int .i64 (((i : Nat) : Int))) (y_move h10_3) rfl ?_
                        refine s_y (v := .int .i64 ((((i + 1) : Nat) : Int))) (y_add (a := ((i : Nat) : Int)) (b := 1) (c := (((i + 1) : Nat) : Int)) rfl rfl (wI (by omega) (by omega) (by omega))) rfl ?_
                        refine s_y (v := .int .i64 ((((i + 1) : Nat) : Int))) (y_assign rfl) rfl ?_
                        refine wpL_nil ?_
                        refine thenS_n ?_
                        exact ⟨_, by omega, ⟨(i + 1), rfl, by omega, rfl, h0_3, h2_3, h3_3, h5_3, h8_3, rfl, .p (.t (.t .h)) (.p .h .nil)⟩⟩
  · -- decide (i < gn) false
    have p4 := of_decide_eq_false b4
    refine wpS_exit ?_
    refine thenS_x ?_
    refine thenS_x ?_
    refine blockS_h ?_
    refine thenS_n ?_
    refine wpS_seq ?_
    refine wpS_region ?_
    refine s_y (v := .agg #[.int .i64 (((((runM 0 ⟨Rg, []⟩ (l.take i)).r).getD 0 0)).toInt), .int .i64 (((((runM 0 ⟨Rg, []⟩ (l.take i)).r).getD 1 0)).toInt), .int .i64 (((((runM 0 ⟨Rg, []⟩ (l.take i)).r).getD 2 0)).toInt), .int .i64 (((((runM 0 ⟨Rg, []⟩ (l.take i)).r).getD 3 0)).toInt), .int .i64 (((((runM 0 ⟨Rg, []⟩ (l.take i)).r).getD 4 0)).toInt), .int .i64 (((((runM 0 ⟨Rg, []⟩ (l.take i)).r).getD 5 0)).toInt), .int .i64 (((((runM 0 ⟨Rg, []⟩ (l.take i)).r).getD 6 0)).toInt), .int .i64 (((((runM 0 ⟨Rg, []⟩ (l.take i)).r).getD 7 0)).toInt)]) (y_loadN (vs := [.int .i64 (((((runM 0 ⟨Rg, []⟩ (l.take i)).r).getD 0 0)).toInt), .int .i64 (((((runM 0 ⟨Rg, []⟩ (l.take i)).r).getD 1 0)).toInt), .int .i64 (((((runM 0 ⟨Rg, []⟩ (l.take i)).r).getD 2 0)).toInt), .int .i64 (((((runM 0 ⟨Rg, []⟩ (l.take i)).r).getD 3 0)).toInt), .int .i64 (((((runM 0 ⟨Rg, []⟩ (l.take i)).r).getD 4 0)).toInt), .int .i64 (((((runM 0 ⟨Rg, []⟩ (l.take i)).r).getD 5 0)).toInt), .int .i64 (((((runM 0 ⟨Rg, []⟩ (l.take i)).r).getD 6 0)).toInt), .int .i64 (((((runM 0 ⟨Rg, []⟩ (l.take i)).r).getD 7 0)).toInt)]) h5_3 Try.isAgg199 Try.sizeOf199 (ownN (.t .h) rfl)) rfl ?_
    refine s_y (v := .slice none 0 0) (y_move h2_3) rfl ?_
    refine s_e0 ?_
    refine e_store (vs := [.int .i64 (((((runM 0 ⟨Rg, []⟩ (l.take i)).r).getD 0 0)).toInt), .int .i64 (((((runM 0 ⟨Rg, []⟩ (l.take i)).r).getD 1 0)).toInt), .int .i64 (((((runM 0 ⟨Rg, []⟩ (l.take i)).r).getD 2 0)).toInt), .int .i64 (((((runM 0 ⟨Rg, []⟩ (l.take i)).r).getD 3 0)).toInt), .int .i64 (((((runM 0 ⟨Rg, []⟩ (l.take i)).r).getD 4 0)).toInt), .int .i64 (((((runM 0 ⟨Rg, []⟩ (l.take i)).r).getD 5 0)).toInt), .int .i64 (((((runM 0 ⟨Rg, []⟩ (l.take i)).r).getD 6 0)).toInt), .int .i64 (((((runM 0 ⟨Rg, []⟩ (l.take i)).r).getD 7 0)).toInt)]) (l' := [.int .i64 (((((runM 0 ⟨Rg, []⟩ (l.take i)).r).getD 0 0)).toInt), .int .i64 (((((runM 0 ⟨Rg, []⟩ (l.take i)).r).getD 1 0)).toInt), .int .i64 (((((runM 0 ⟨Rg, []⟩ (l.take i)).r).getD 2 0)).toInt), .int .i64 (((((runM 0 ⟨Rg, []⟩ (l.take i)).r).getD 3 0)).toInt), .int .i64 (((((runM 0 ⟨Rg, []⟩ (l.take i)).r).getD 4 0)).toInt), .int .i64 (((((runM 0 ⟨Rg, []⟩ (l.take i)).r).getD 5 0)).toInt), .int .i64 (((((runM 0 ⟨Rg, []⟩ (l.take i)).r).getD 6 0)).toInt), .int .i64 (((((runM 0 ⟨Rg, []⟩ (l.take i)).r).getD 7 0)).toInt)]) h8_3 rfl rfl rfl Try.sizeOf199 .h (Nat.le_of_ble_eq_true rfl) rfl ?_
    refine s_y (v := .slice none 0 0) (y_assign rfl) rfl ?_
    refine wpL_nil ?_
    refine thenS_n ?_
    refine wpS_ret ?_
    refine fin2 (M := [cel b_2 199 [.int .i64 (((((runM 0 ⟨Rg, []⟩ (l.take i)).r).getD 0 0)).toInt), .int .i64 (((((runM 0 ⟨Rg, []⟩ (l.take i)).r).getD 1 0)).toInt), .int .i64 (((((runM 0 ⟨Rg, []⟩ (l.take i)).r).getD 2 0)).toInt), .int .i64 (((((runM 0 ⟨Rg, []⟩ (l.take i)).r).getD 3 0)).toInt), .int .i64 (((((runM 0 ⟨Rg, []⟩ (l.take i)).r).getD 4 0)).toInt), .int .i64 (((((runM 0 ⟨Rg, []⟩ (l.take i)).r).getD 5 0)).toInt), .int .i64 (((((runM 0 ⟨Rg, []⟩ (l.take i)).r).getD 6 0)).toInt), .int .i64 (((((runM 0 ⟨Rg, []⟩ (l.take i)).r).getD 7 0)).toInt)]]) (.inr rfl) (.p .h .nil) Try.results231 (rvC (vs := [.int .i64 (((((runM 0 ⟨Rg, []⟩ (l.take i)).r).getD 0 0)).toInt), .int .i64 (((((runM 0 ⟨Rg, []⟩ (l.take i)).r).getD 1 0)).toInt), .int .i64 (((((runM 0 ⟨Rg, []⟩ (l.take i)).r).getD 2 0)).toInt), .int .i64 (((((runM 0 ⟨Rg, []⟩ (l.take i)).r).getD 3 0)).toInt), .int .i64 (((((runM 0 ⟨Rg, []⟩ (l.take i)).r).getD 4 0)).toInt), .int .i64 (((((runM 0 ⟨Rg, []⟩ (l.take i)).r).getD 5 0)).toInt), .int .i64 (((((runM 0 ⟨Rg, []⟩ (l.take i)).r).getD 6 0)).toInt), .int .i64 (((((runM 0 ⟨Rg, []⟩ (l.take i)).r).getD 7 0)).toInt)]) h8_3 Try.isAgg199 Try.sizeOf199 (fun w hs => ownN .h rfl w hs)) (rvT (v := .slice none 0 0) rfl) ?_
    intro w' hs; exact ⟨(by rw [List.take_of_length_le (show l.length ≤ i by omega)]), SH.dropAll (L := []) [_] hs⟩

theorem rfold_c (k : Int) (a1 a2 a3 : Option Addr) (n1 c1 n2 c2 n3 c3 : Nat) (l1 l2 l3 : List Opc) (u v : Int64) (w : World) (hn1 : l1.length = n1) (hr1 : Rds w a1 (l1.flatMap opcV)) (hb1 : n1 ≤ 1000000) (hn2 : l2.length = n2) (hr2 : Rds w a2 (l2.flatMap opcV)) (hb2 : n2 ≤ 1000000) (hn3 : l3.length = n3) (hr3 : Rds w a3 (l3.flatMap opcV)) (hb3 : n3 ≤ 1000000) : Pure Try.prog 179 #[.agg #[.int .i64 k, .slice a1 n1 c1, .slice a2 n2 c2, .slice a3 n3 c3], .int .i64 (u.toInt), .int .i64 (v.toInt)] w (.int .i64 ((doneC (chkB k l1 l2 l3) l2 u v).toInt)) := by
  refine calls_S (n := 23) (σ0 := (upd (upd (upd fr0 0 (.agg #[.int .i64 k, .slice a1 n1 c1, .slice a2 n2 c2, .slice a3 n3 c3])) 1 (.int .i64 (u.toInt))) 2 (.int .i64 (v.toInt)))) (D := []) (A := []) Try.func179 rfl Try.ntmps179 rfl (a3_fr _ _ _) (SH.start w) ?_
  refine wpS_seq ?_
  refine wpS_region ?_
  refine s_e rfl ?_
  refine e_box (v := .agg #[.int .i64 k, .slice a1 n1 c1, .slice a2 n2 c2, .slice a3 n3 c3]) (l := [.int .i64 k, .slice a1 n1 c1, .slice a2 n2 c2, .slice a3 n3 c3]) rfl rfl ?_
  intro b_1
  refine s_y (v := .int .i64 0) (y_assign rfl) rfl ?_
  refine wpL_nil ?_
  refine thenS_n ?_
  refine wpS_seq ?_
  refine wpS_seq ?_
  refine wpS_region ?_
  refine s_y (v := .agg #[.int .i64 k, .slice a1 n1 c1, .slice a2 n2 c2, .slice a3 n3 c3]) (y_loadN (vs := [.int .i64 k, .slice a1 n1 c1, .slice a2 n2 c2, .slice a3 n3 c3]) rfl Try.isAgg84 Try.sizeOf84 (ownN .h rfl)) rfl ?_
  refine s_y (v := .int .i64 (chk11 k l1 l2 l3)) (y_call (args := #[.agg #[.int .i64 k, .slice a1 n1 c1, .slice a2 n2 c2, .slice a3 n3 c3]]) (v := .int .i64 (chk11 k l1 l2 l3)) Try.call93 (ev1 rfl) (fun w hs => rcheck_c k a1 a2 a3 n1 c1 n2 c2 n3 c3 l1 l2 l3 w hn1 ((oldR hr1) w hs) (by omega) hn2 ((oldR hr2) w hs) (by omega) hn3 ((oldR hr3) w hs) (by omega))) rfl ?_
  refine s_y (v := .bool (decide ((chk11 k l1 l2 l3 : Int) ≠ 0))) (y_neq (a := chk11 k l1 l2 l3) (b := 0) rfl rfl rfl) rfl ?_
  refine wpL_nil ?_
  refine thenS_n ?_
  refine wpS_cond (t := decide ((chk11 k l1 l2 l3 : Int) ≠ 0)) rfl (fun b2 => ?_) (fun b2 => ?_)
  · -- decide ((chk11 k l1 l2 l3 : Int) ≠ 0) true
    have p2 := of_decide_eq_true b2
    have hno : chkB k l1 l2 l3 = false := chk_no p2
    refine wpS_seq ?_
    refine wpS_region ?_
    refine s_y (v := .int .i64 0) (y_assign rfl) rfl ?_
    refine wpL_nil ?_
    refine thenS_n ?_
    refine wpS_ret ?_
    refine thenS_r ?_
    refine fin1 (v := .int .i64 0) (.inr rfl) (.nil) Try.results179 rfl ?_
    exact fun w' hs => ⟨congrArg (fun z : Int64 => Ending.returned (.int .i64 z.toInt)) ((by unfold doneC; rw [if_neg (by rw [hno]; decide)] : (0 : Int64) = _)), hs⟩
  · -- decide ((chk11 k l1 l2 l3 : Int) ≠ 0) false
    have p2 := of_decide_eq_false b2
    have hok : chkB k l1 l2 l3 = true := chk_yes (Decidable.not_not.1 p2)
    obtain ⟨hk1, hk4, hp1, hp2, hp3⟩ := chk_bd hok
    refine wpS_skip ?_
    refine thenS_n ?_
    refine wpS_seq ?_
    refine wpS_region ?_
    refine s_y (v := .pointer (some ⟨b_1, 2, none⟩)) (y_fieldAddr (o' := 2) rfl Try.underlying84 rfl Try.sizeOf82 (by decide) rfl) rfl ?_
    refine s_y (v := .slice a2 n2 c2) (y_load1 rfl Try.isAgg82 (own1 .h rfl)) rfl ?_
    refine s_y (v := .int .i64 (u.toInt)) (y_move rfl) rfl ?_
    refine s_y (v := .int .i64 (v.toInt)) (y_move rfl) rfl ?_
    refine s_y (v := .agg #[.int .i64 (u.toInt), .int .i64 (v.toInt), .int .i64 0, .int .i64 0, .int .i64 0, .int .i64 0, .int .i64 0, .int .i64 0]) (y_buildL (m := [(0, .int .i64 (u.toInt)), (1, .int .i64 (v.toInt))]) (vs := #[.int .i64 (u.toInt), .int .i64 (v.toInt), .int .i64 0, .int .i64 0, .int .i64 0, .int .i64 0, .int .i64 0, .int .i64 0]) (evc rfl (evc rfl evn)) (fun w => by kernel_rfl)) rfl ?_
    refine s_y (v := .tuple #[.agg #[.int .i64 ((((runM 0 ⟨([u, v, 0, 0, 0, 0, 0, 0] : List Int64), []⟩ l2).r.getD 0 0)).toInt), .int .i64 ((((runM 0 ⟨([u, v, 0, 0, 0, 0, 0, 0] : List Int64), []⟩ l2).r.getD 1 0)).toInt), .int .i64 ((((runM 0 ⟨([u, v, 0, 0, 0, 0, 0, 0] : List Int64), []⟩ l2).r.getD 2 0)).toInt), .int .i64 ((((runM 0 ⟨([u, v, 0, 0, 0, 0, 0, 0] : List Int64), []⟩ l2).r.getD 3 0)).toInt), .int .i64 ((((runM 0 ⟨([u, v, 0, 0, 0, 0, 0, 0] : List Int64), []⟩ l2).r.getD 4 0)).toInt), .int .i64 ((((runM 0 ⟨([u, v, 0, 0, 0, 0, 0, 0] : List Int64), []⟩ l2).r.getD 5 0)).toInt), .int .i64 ((((runM 0 ⟨([u, v, 0, 0, 0, 0, 0, 0] : List Int64), []⟩ l2).r.getD 6 0)).toInt), .int .i64 ((((runM 0 ⟨([u, v, 0, 0, 0, 0, 0, 0] : List Int64), []⟩ l2).r.getD 7 0)).toInt)], .slice none 0 0]) (y_call (args := #[.slice a2 n2 c2, .agg #[.int .i64 (u.toInt), .int .i64 (v.toInt), .int .i64 0, .int .i64 0, .int .i64 0, .int .i64 0, .int .i64 0, .int .i64 0], .slice none 0 0, .int .i64 0]) (v := .tuple #[.agg #[.int .i64 ((((runM 0 ⟨([u, v, 0, 0, 0, 0, 0, 0] : List Int64), []⟩ l2).r.getD 0 0)).toInt), .int .i64 ((((runM 0 ⟨([u, v, 0, 0, 0, 0, 0, 0] : List Int64), []⟩ l2).r.getD 1 0)).toInt), .int .i64 ((((runM 0 ⟨([u, v, 0, 0, 0, 0, 0, 0] : List Int64), []⟩ l2).r.getD 2 0)).toInt), .int .i64 ((((runM 0 ⟨([u, v, 0, 0, 0, 0, 0, 0] : List Int64), []⟩ l2).r.getD 3 0)).toInt), .int .i64 ((((runM 0 ⟨([u, v, 0, 0, 0, 0, 0, 0] : List Int64), []⟩ l2).r.getD 4 0)).toInt), .int .i64 ((((runM 0 ⟨([u, v, 0, 0, 0, 0, 0, 0] : List Int64), []⟩ l2).r.getD 5 0)).toInt), .int .i64 ((((runM 0 ⟨([u, v, 0, 0, 0, 0, 0, 0] : List Int64), []⟩ l2).r.getD 6 0)).toInt), .int .i64 ((((runM 0 ⟨([u, v, 0, 0, 0, 0, 0, 0] : List Int64), []⟩ l2).r.getD 7 0)).toInt)], .slice none 0 0]) Try.call231 (ev4 rfl rfl rfl rfl) (fun w hs => rrun_c ([u, v, 0, 0, 0, 0, 0, 0] : List Int64) a2 n2 c2 l2 w rfl hp2 hn2 ((oldR hr2) w hs) (by omega))) rfl ?_
    refine s_y (v := .tuple #[.agg #[.int .i64 ((((runM 0 ⟨([u, v, 0, 0, 0, 0, 0, 0] : List Int64), []⟩ l2).r.getD 0 0)).toInt), .int .i64 ((((runM 0 ⟨([u, v, 0, 0, 0, 0, 0, 0] : List Int64), []⟩ l2).r.getD 1 0)).toInt), .int .i64 ((((runM 0 ⟨([u, v, 0, 0, 0, 0, 0, 0] : List Int64), []⟩ l2).r.getD 2 0)).toInt), .int .i64 ((((runM 0 ⟨([u, v, 0, 0, 0, 0, 0, 0] : List Int64), []⟩ l2).r.getD 3 0)).toInt), .int .i64 ((((runM 0 ⟨([u, v, 0, 0, 0, 0, 0, 0] : List Int64), []⟩ l2).r.getD 4 0)).toInt), .int .i64 ((((runM 0 ⟨([u, v, 0, 0, 0, 0, 0, 0] : List Int64), []⟩ l2).r.getD 5 0)).toInt), .int .i64 ((((runM 0 ⟨([u, v, 0, 0, 0, 0, 0, 0] : List Int64), []⟩ l2).r.getD 6 0)).toInt), .int .i64 ((((runM 0 ⟨([u, v, 0, 0, 0, 0, 0, 0] : List Int64), []⟩ l2).r.getD 7 0)).toInt)], .slice none 0 0]) (y_move rfl) rfl ?_
    refine s_y (v := .agg #[.int .i64 ((((runM 0 ⟨([u, v, 0, 0, 0, 0, 0, 0] : List Int64), []⟩ l2).r.getD 0 0)).toInt), .int .i64 ((((runM 0 ⟨([u, v, 0, 0, 0, 0, 0, 0] : List Int64), []⟩ l2).r.getD 1 0)).toInt), .int .i64 ((((runM 0 ⟨([u, v, 0, 0, 0, 0, 0, 0] : List Int64), []⟩ l2).r.getD 2 0)).toInt), .int .i64 ((((runM 0 ⟨([u, v, 0, 0, 0, 0, 0, 0] : List Int64), []⟩ l2).r.getD 3 0)).toInt), .int .i64 ((((runM 0 ⟨([u, v, 0, 0, 0, 0, 0, 0] : List Int64), []⟩ l2).r.getD 4 0)).toInt), .int .i64 ((((runM 0 ⟨([u, v, 0, 0, 0, 0, 0, 0] : List Int64), []⟩ l2).r.getD 5 0)).toInt), .int .i64 ((((runM 0 ⟨([u, v, 0, 0, 0, 0, 0, 0] : List Int64), []⟩ l2).r.getD 6 0)).toInt), .int .i64 ((((runM 0 ⟨([u, v, 0, 0, 0, 0, 0, 0] : List Int64), []⟩ l2).r.getD 7 0)).toInt)]) (y_extract (v := .agg #[.int .i64 ((((runM 0 ⟨([u, v, 0, 0, 0, 0, 0, 0] : List Int64), []⟩ l2).r.getD 0 0)).toInt), .int .i64 ((((runM 0 ⟨([u, v, 0, 0, 0, 0, 0, 0] : List Int64), []⟩ l2).r.getD 1 0)).toInt), .int .i64 ((((runM 0 ⟨([u, v, 0, 0, 0, 0, 0, 0] : List Int64), []⟩ l2).r.getD 2 0)).toInt), .int .i64 ((((runM 0 ⟨([u, v, 0, 0, 0, 0, 0, 0] : List Int64), []⟩ l2).r.getD 3 0)).toInt), .int .i64 ((((runM 0 ⟨([u, v, 0, 0, 0, 0, 0, 0] : List Int64), []⟩ l2).r.getD 4 0)).toInt), .int .i64 ((((runM 0 ⟨([u, v, 0, 0, 0, 0, 0, 0] : List Int64), []⟩ l2).r.getD 5 0)).toInt), .int .i64 ((((runM 0 ⟨([u, v, 0, 0, 0, 0, 0, 0] : List Int64), []⟩ l2).r.getD 6 0)).toInt), .int .i64 ((((runM 0 ⟨([u, v, 0, 0, 0, 0, 0, 0] : List Int64), []⟩ l2).r.getD 7 0)).toInt)]) rfl rfl) rfl ?_
    refine s_y (v := .slice none 0 0) (y_extract (v := .slice none 0 0) rfl rfl) rfl ?_
    refine s_e rfl ?_
    refine e_alloc (l := [.int .i64 0, .int .i64 0, .int .i64 0, .int .i64 0, .int .i64 0, .int .i64 0, .int .i64 0, .int .i64 0]) Try.zeroValue199 rfl ?_
    intro b_3
    refine s_e0 ?_
    refine e_store (vs := [.int .i64 ((((runM 0 ⟨([u, v, 0, 0, 0, 0, 0, 0] : List Int64), []⟩ l2).r.getD 0 0)).toInt), .int .i64 ((((runM 0 ⟨([u, v, 0, 0, 0, 0, 0, 0] : List Int64), []⟩ l2).r.getD 1 0)).toInt), .int .i64 ((((runM 0 ⟨([u, v, 0, 0, 0, 0, 0, 0] : List Int64), []⟩ l2).r.getD 2 0)).toInt), .int .i64 ((((runM 0 ⟨([u, v, 0, 0, 0, 0, 0, 0] : List Int64), []⟩ l2).r.getD 3 0)).toInt), .int .i64 ((((runM 0 ⟨([u, v, 0, 0, 0, 0, 0, 0] : List Int64), []⟩ l2).r.getD 4 0)).toInt), .int .i64 ((((runM 0 ⟨([u, v, 0, 0, 0, 0, 0, 0] : List Int64), []⟩ l2).r.getD 5 0)).toInt), .int .i64 ((((runM 0 ⟨([u, v, 0, 0, 0, 0, 0, 0] : List Int64), []⟩ l2).r.getD 6 0)).toInt), .int .i64 ((((runM 0 ⟨([u, v, 0, 0, 0, 0, 0, 0] : List Int64), []⟩ l2).r.getD 7 0)).toInt)]) (l' := [.int .i64 ((((runM 0 ⟨([u, v, 0, 0, 0, 0, 0, 0] : List Int64), []⟩ l2).r.getD 0 0)).toInt), .int .i64 ((((runM 0 ⟨([u, v, 0, 0, 0, 0, 0, 0] : List Int64), []⟩ l2).r.getD 1 0)).toInt), .int .i64 ((((runM 0 ⟨([u, v, 0, 0, 0, 0, 0, 0] : List Int64), []⟩ l2).r.getD 2 0)).toInt), .int .i64 ((((runM 0 ⟨([u, v, 0, 0, 0, 0, 0, 0] : List Int64), []⟩ l2).r.getD 3 0)).toInt), .int .i64 ((((runM 0 ⟨([u, v, 0, 0, 0, 0, 0, 0] : List Int64), []⟩ l2).r.getD 4 0)).toInt), .int .i64 ((((runM 0 ⟨([u, v, 0, 0, 0, 0, 0, 0] : List Int64), []⟩ l2).r.getD 5 0)).toInt), .int .i64 ((((runM 0 ⟨([u, v, 0, 0, 0, 0, 0, 0] : List Int64), []⟩ l2).r.getD 6 0)).toInt), .int .i64 ((((runM 0 ⟨([u, v, 0, 0, 0, 0, 0, 0] : List Int64), []⟩ l2).r.getD 7 0)).toInt)]) rfl rfl rfl rfl Try.sizeOf199 .h (Nat.le_of_ble_eq_true rfl) rfl ?_
    refine s_y (v := .slice none 0 0) (y_assign rfl) rfl ?_
    refine wpL_nil ?_
    refine thenS_n ?_
    refine wpS_seq ?_
    refine wpS_region ?_
    refine s_y (v := .pointer (some ⟨b_3, 0, none⟩)) (y_idxA (o' := 0) rfl rfl Try.underlying199 Try.sizeOf2 (by decide) (by decide) (by decide)) rfl ?_
    refine s_y (v := .int .i64 ((((runM 0 ⟨([u, v, 0, 0, 0, 0, 0, 0] : List Int64), []⟩ l2).r.getD 0 0)).toInt)) (y_load1 rfl Try.isAgg2 (own1 .h rfl)) rfl ?_
    refine s_y (v := .int .i64 ((((runM 0 ⟨([u, v, 0, 0, 0, 0, 0, 0] : List Int64), []⟩ l2).r.getD 0 0)).toInt)) (y_assign rfl) rfl ?_
    refine wpL_nil ?_
    refine thenS_n ?_
    refine wpS_ret ?_
    refine fin1 (v := .int .i64 ((((runM 0 ⟨([u, v, 0, 0, 0, 0, 0, 0] : List Int64), []⟩ l2).r.getD 0 0)).toInt)) (.inr rfl) (.nil) Try.results179 rfl ?_
    exact fun w' hs => ⟨congrArg (fun z : Int64 => Ending.returned (.int .i64 z.toInt)) ((by unfold doneC; rw [if_pos hok]; rfl)), hs⟩

theorem rfinish_c (k : Int) (a1 a2 a3 : Option Addr) (n1 c1 n2 c2 n3 c3 : Nat) (l1 l2 l3 : List Opc) (u v : Int64) (w : World) (hn1 : l1.length = n1) (hr1 : Rds w a1 (l1.flatMap opcV)) (hb1 : n1 ≤ 1000000) (hn2 : l2.length = n2) (hr2 : Rds w a2 (l2.flatMap opcV)) (hb2 : n2 ≤ 1000000) (hn3 : l3.length = n3) (hr3 : Rds w a3 (l3.flatMap opcV)) (hb3 : n3 ≤ 1000000) : Pure Try.prog 180 #[.agg #[.int .i64 k, .slice a1 n1 c1, .slice a2 n2 c2, .slice a3 n3 c3], .int .i64 (u.toInt), .int .i64 (v.toInt)] w (.int .i64 ((doneC (chkB k l1 l2 l3) l3 v u).toInt)) := by
  refine calls_S (n := 23) (σ0 := (upd (upd (upd fr0 0 (.agg #[.int .i64 k, .slice a1 n1 c1, .slice a2 n2 c2, .slice a3 n3 c3])) 1 (.int .i64 (u.toInt))) 2 (.int .i64 (v.toInt)))) (D := []) (A := []) Try.func180 rfl Try.ntmps180 rfl (a3_fr _ _ _) (SH.start w) ?_
  refine wpS_seq ?_
  refine wpS_region ?_
  refine s_e rfl ?_
  refine e_box (v := .agg #[.int .i64 k, .slice a1 n1 c1, .slice a2 n2 c2, .slice a3 n3 c3]) (l := [.int .i64 k, .slice a1 n1 c1, .slice a2 n2 c2, .slice a3 n3 c3]) rfl rfl ?_
  intro b_1
  refine s_y (v := .int .i64 0) (y_assign rfl) rfl ?_
  refine wpL_nil ?_
  refine thenS_n ?_
  refine wpS_seq ?_
  refine wpS_seq ?_
  refine wpS_region ?_
  refine s_y (v := .agg #[.int .i64 k, .slice a1 n1 c1, .slice a2 n2 c2, .slice a3 n3 c3]) (y_loadN (vs := [.int .i64 k, .slice a1 n1 c1, .slice a2 n2 c2, .slice a3 n3 c3]) rfl Try.isAgg84 Try.sizeOf84 (ownN .h rfl)) rfl ?_
  refine s_y (v := .int .i64 (chk11 k l1 l2 l3)) (y_call (args := #[.agg #[.int .i64 k, .slice a1 n1 c1, .slice a2 n2 c2, .slice a3 n3 c3]]) (v := .int .i64 (chk11 k l1 l2 l3)) Try.call93 (ev1 rfl) (fun w hs => rcheck_c k a1 a2 a3 n1 c1 n2 c2 n3 c3 l1 l2 l3 w hn1 ((oldR hr1) w hs) (by omega) hn2 ((oldR hr2) w hs) (by omega) hn3 ((oldR hr3) w hs) (by omega))) rfl ?_
  refine s_y (v := .bool (decide ((chk11 k l1 l2 l3 : Int) ≠ 0))) (y_neq (a := chk11 k l1 l2 l3) (b := 0) rfl rfl rfl) rfl ?_
  refine wpL_nil ?_
  refine thenS_n ?_
  refine wpS_cond (t := decide ((chk11 k l1 l2 l3 : Int) ≠ 0)) rfl (fun b2 => ?_) (fun b2 => ?_)
  · -- decide ((chk11 k l1 l2 l3 : Int) ≠ 0) true
    have p2 := of_decide_eq_true b2
    have hno : chkB k l1 l2 l3 = false := chk_no p2
    refine wpS_seq ?_
    refine wpS_region ?_
    refine s_y (v := .int .i64 0) (y_assign rfl) rfl ?_
    refine wpL_nil ?_
    refine thenS_n ?_
    refine wpS_ret ?_
    refine thenS_r ?_
    refine fin1 (v := .int .i64 0) (.inr rfl) (.nil) Try.results180 rfl ?_
    exact fun w' hs => ⟨congrArg (fun z : Int64 => Ending.returned (.int .i64 z.toInt)) ((by unfold doneC; rw [if_neg (by rw [hno]; decide)] : (0 : Int64) = _)), hs⟩
  · -- decide ((chk11 k l1 l2 l3 : Int) ≠ 0) false
    have p2 := of_decide_eq_false b2
    have hok : chkB k l1 l2 l3 = true := chk_yes (Decidable.not_not.1 p2)
    obtain ⟨hk1, hk4, hp1, hp2, hp3⟩ := chk_bd hok
    refine wpS_skip ?_
    refine thenS_n ?_
    refine wpS_seq ?_
    refine wpS_region ?_
    refine s_y (v := .pointer (some ⟨b_1, 3, none⟩)) (y_fieldAddr (o' := 3) rfl Try.underlying84 rfl Try.sizeOf82 (by decide) rfl) rfl ?_
    refine s_y (v := .slice a3 n3 c3) (y_load1 rfl Try.isAgg82 (own1 .h rfl)) rfl ?_
    refine s_y (v := .int .i64 (v.toInt)) (y_move rfl) rfl ?_
    refine s_y (v := .int .i64 (u.toInt)) (y_move rfl) rfl ?_
    refine s_y (v := .agg #[.int .i64 (v.toInt), .int .i64 (u.toInt), .int .i64 0, .int .i64 0, .int .i64 0, .int .i64 0, .int .i64 0, .int .i64 0]) (y_buildL (m := [(0, .int .i64 (v.toInt)), (1, .int .i64 (u.toInt))]) (vs := #[.int .i64 (v.toInt), .int .i64 (u.toInt), .int .i64 0, .int .i64 0, .int .i64 0, .int .i64 0, .int .i64 0, .int .i64 0]) (evc rfl (evc rfl evn)) (fun w => by kernel_rfl)) rfl ?_
    refine s_y (v := .tuple #[.agg #[.int .i64 ((((runM 0 ⟨([v, u, 0, 0, 0, 0, 0, 0] : List Int64), []⟩ l3).r.getD 0 0)).toInt), .int .i64 ((((runM 0 ⟨([v, u, 0, 0, 0, 0, 0, 0] : List Int64), []⟩ l3).r.getD 1 0)).toInt), .int .i64 ((((runM 0 ⟨([v, u, 0, 0, 0, 0, 0, 0] : List Int64), []⟩ l3).r.getD 2 0)).toInt), .int .i64 ((((runM 0 ⟨([v, u, 0, 0, 0, 0, 0, 0] : List Int64), []⟩ l3).r.getD 3 0)).toInt), .int .i64 ((((runM 0 ⟨([v, u, 0, 0, 0, 0, 0, 0] : List Int64), []⟩ l3).r.getD 4 0)).toInt), .int .i64 ((((runM 0 ⟨([v, u, 0, 0, 0, 0, 0, 0] : List Int64), []⟩ l3).r.getD 5 0)).toInt), .int .i64 ((((runM 0 ⟨([v, u, 0, 0, 0, 0, 0, 0] : List Int64), []⟩ l3).r.getD 6 0)).toInt), .int .i64 ((((runM 0 ⟨([v, u, 0, 0, 0, 0, 0, 0] : List Int64), []⟩ l3).r.getD 7 0)).toInt)], .slice none 0 0]) (y_call (args := #[.slice a3 n3 c3, .agg #[.int .i64 (v.toInt), .int .i64 (u.toInt), .int .i64 0, .int .i64 0, .int .i64 0, .int .i64 0, .int .i64 0, .int .i64 0], .slice none 0 0, .int .i64 0]) (v := .tuple #[.agg #[.int .i64 ((((runM 0 ⟨([v, u, 0, 0, 0, 0, 0, 0] : List Int64), []⟩ l3).r.getD 0 0)).toInt), .int .i64 ((((runM 0 ⟨([v, u, 0, 0, 0, 0, 0, 0] : List Int64), []⟩ l3).r.getD 1 0)).toInt), .int .i64 ((((runM 0 ⟨([v, u, 0, 0, 0, 0, 0, 0] : List Int64), []⟩ l3).r.getD 2 0)).toInt), .int .i64 ((((runM 0 ⟨([v, u, 0, 0, 0, 0, 0, 0] : List Int64), []⟩ l3).r.getD 3 0)).toInt), .int .i64 ((((runM 0 ⟨([v, u, 0, 0, 0, 0, 0, 0] : List Int64), []⟩ l3).r.getD 4 0)).toInt), .int .i64 ((((runM 0 ⟨([v, u, 0, 0, 0, 0, 0, 0] : List Int64), []⟩ l3).r.getD 5 0)).toInt), .int .i64 ((((runM 0 ⟨([v, u, 0, 0, 0, 0, 0, 0] : List Int64), []⟩ l3).r.getD 6 0)).toInt), .int .i64 ((((runM 0 ⟨([v, u, 0, 0, 0, 0, 0, 0] : List Int64), []⟩ l3).r.getD 7 0)).toInt)], .slice none 0 0]) Try.call231 (ev4 rfl rfl rfl rfl) (fun w hs => rrun_c ([v, u, 0, 0, 0, 0, 0, 0] : List Int64) a3 n3 c3 l3 w rfl hp3 hn3 ((oldR hr3) w hs) (by omega))) rfl ?_
    refine s_y (v := .tuple #[.agg #[.int .i64 ((((runM 0 ⟨([v, u, 0, 0, 0, 0, 0, 0] : List Int64), []⟩ l3).r.getD 0 0)).toInt), .int .i64 ((((runM 0 ⟨([v, u, 0, 0, 0, 0, 0, 0] : List Int64), []⟩ l3).r.getD 1 0)).toInt), .int .i64 ((((runM 0 ⟨([v, u, 0, 0, 0, 0, 0, 0] : List Int64), []⟩ l3).r.getD 2 0)).toInt), .int .i64 ((((runM 0 ⟨([v, u, 0, 0, 0, 0, 0, 0] : List Int64), []⟩ l3).r.getD 3 0)).toInt), .int .i64 ((((runM 0 ⟨([v, u, 0, 0, 0, 0, 0, 0] : List Int64), []⟩ l3).r.getD 4 0)).toInt), .int .i64 ((((runM 0 ⟨([v, u, 0, 0, 0, 0, 0, 0] : List Int64), []⟩ l3).r.getD 5 0)).toInt), .int .i64 ((((runM 0 ⟨([v, u, 0, 0, 0, 0, 0, 0] : List Int64), []⟩ l3).r.getD 6 0)).toInt), .int .i64 ((((runM 0 ⟨([v, u, 0, 0, 0, 0, 0, 0] : List Int64), []⟩ l3).r.getD 7 0)).toInt)], .slice none 0 0]) (y_move rfl) rfl ?_
    refine s_y (v := .agg #[.int .i64 ((((runM 0 ⟨([v, u, 0, 0, 0, 0, 0, 0] : List Int64), []⟩ l3).r.getD 0 0)).toInt), .int .i64 ((((runM 0 ⟨([v, u, 0, 0, 0, 0, 0, 0] : List Int64), []⟩ l3).r.getD 1 0)).toInt), .int .i64 ((((runM 0 ⟨([v, u, 0, 0, 0, 0, 0, 0] : List Int64), []⟩ l3).r.getD 2 0)).toInt), .int .i64 ((((runM 0 ⟨([v, u, 0, 0, 0, 0, 0, 0] : List Int64), []⟩ l3).r.getD 3 0)).toInt), .int .i64 ((((runM 0 ⟨([v, u, 0, 0, 0, 0, 0, 0] : List Int64), []⟩ l3).r.getD 4 0)).toInt), .int .i64 ((((runM 0 ⟨([v, u, 0, 0, 0, 0, 0, 0] : List Int64), []⟩ l3).r.getD 5 0)).toInt), .int .i64 ((((runM 0 ⟨([v, u, 0, 0, 0, 0, 0, 0] : List Int64), []⟩ l3).r.getD 6 0)).toInt), .int .i64 ((((runM 0 ⟨([v, u, 0, 0, 0, 0, 0, 0] : List Int64), []⟩ l3).r.getD 7 0)).toInt)]) (y_extract (v := .agg #[.int .i64 ((((runM 0 ⟨([v, u, 0, 0, 0, 0, 0, 0] : List Int64), []⟩ l3).r.getD 0 0)).toInt), .int .i64 ((((runM 0 ⟨([v, u, 0, 0, 0, 0, 0, 0] : List Int64), []⟩ l3).r.getD 1 0)).toInt), .int .i64 ((((runM 0 ⟨([v, u, 0, 0, 0, 0, 0, 0] : List Int64), []⟩ l3).r.getD 2 0)).toInt), .int .i64 ((((runM 0 ⟨([v, u, 0, 0, 0, 0, 0, 0] : List Int64), []⟩ l3).r.getD 3 0)).toInt), .int .i64 ((((runM 0 ⟨([v, u, 0, 0, 0, 0, 0, 0] : List Int64), []⟩ l3).r.getD 4 0)).toInt), .int .i64 ((((runM 0 ⟨([v, u, 0, 0, 0, 0, 0, 0] : List Int64), []⟩ l3).r.getD 5 0)).toInt), .int .i64 ((((runM 0 ⟨([v, u, 0, 0, 0, 0, 0, 0] : List Int64), []⟩ l3).r.getD 6 0)).toInt), .int .i64 ((((runM 0 ⟨([v, u, 0, 0, 0, 0, 0, 0] : List Int64), []⟩ l3).r.getD 7 0)).toInt)]) rfl rfl) rfl ?_
    refine s_y (v := .slice none 0 0) (y_extract (v := .slice none 0 0) rfl rfl) rfl ?_
    refine s_e rfl ?_
    refine e_alloc (l := [.int .i64 0, .int .i64 0, .int .i64 0, .int .i64 0, .int .i64 0, .int .i64 0, .int .i64 0, .int .i64 0]) Try.zeroValue199 rfl ?_
    intro b_3
    refine s_e0 ?_
    refine e_store (vs := [.int .i64 ((((runM 0 ⟨([v, u, 0, 0, 0, 0, 0, 0] : List Int64), []⟩ l3).r.getD 0 0)).toInt), .int .i64 ((((runM 0 ⟨([v, u, 0, 0, 0, 0, 0, 0] : List Int64), []⟩ l3).r.getD 1 0)).toInt), .int .i64 ((((runM 0 ⟨([v, u, 0, 0, 0, 0, 0, 0] : List Int64), []⟩ l3).r.getD 2 0)).toInt), .int .i64 ((((runM 0 ⟨([v, u, 0, 0, 0, 0, 0, 0] : List Int64), []⟩ l3).r.getD 3 0)).toInt), .int .i64 ((((runM 0 ⟨([v, u, 0, 0, 0, 0, 0, 0] : List Int64), []⟩ l3).r.getD 4 0)).toInt), .int .i64 ((((runM 0 ⟨([v, u, 0, 0, 0, 0, 0, 0] : List Int64), []⟩ l3).r.getD 5 0)).toInt), .int .i64 ((((runM 0 ⟨([v, u, 0, 0, 0, 0, 0, 0] : List Int64), []⟩ l3).r.getD 6 0)).toInt), .int .i64 ((((runM 0 ⟨([v, u, 0, 0, 0, 0, 0, 0] : List Int64), []⟩ l3).r.getD 7 0)).toInt)]) (l' := [.int .i64 ((((runM 0 ⟨([v, u, 0, 0, 0, 0, 0, 0] : List Int64), []⟩ l3).r.getD 0 0)).toInt), .int .i64 ((((runM 0 ⟨([v, u, 0, 0, 0, 0, 0, 0] : List Int64), []⟩ l3).r.getD 1 0)).toInt), .int .i64 ((((runM 0 ⟨([v, u, 0, 0, 0, 0, 0, 0] : List Int64), []⟩ l3).r.getD 2 0)).toInt), .int .i64 ((((runM 0 ⟨([v, u, 0, 0, 0, 0, 0, 0] : List Int64), []⟩ l3).r.getD 3 0)).toInt), .int .i64 ((((runM 0 ⟨([v, u, 0, 0, 0, 0, 0, 0] : List Int64), []⟩ l3).r.getD 4 0)).toInt), .int .i64 ((((runM 0 ⟨([v, u, 0, 0, 0, 0, 0, 0] : List Int64), []⟩ l3).r.getD 5 0)).toInt), .int .i64 ((((runM 0 ⟨([v, u, 0, 0, 0, 0, 0, 0] : List Int64), []⟩ l3).r.getD 6 0)).toInt), .int .i64 ((((runM 0 ⟨([v, u, 0, 0, 0, 0, 0, 0] : List Int64), []⟩ l3).r.getD 7 0)).toInt)]) rfl rfl rfl rfl Try.sizeOf199 .h (Nat.le_of_ble_eq_true rfl) rfl ?_
    refine s_y (v := .slice none 0 0) (y_assign rfl) rfl ?_
    refine wpL_nil ?_
    refine thenS_n ?_
    refine wpS_seq ?_
    refine wpS_region ?_
    refine s_y (v := .pointer (some ⟨b_3, 0, none⟩)) (y_idxA (o' := 0) rfl rfl Try.underlying199 Try.sizeOf2 (by decide) (by decide) (by decide)) rfl ?_
    refine s_y (v := .int .i64 ((((runM 0 ⟨([v, u, 0, 0, 0, 0, 0, 0] : List Int64), []⟩ l3).r.getD 0 0)).toInt)) (y_load1 rfl Try.isAgg2 (own1 .h rfl)) rfl ?_
    refine s_y (v := .int .i64 ((((runM 0 ⟨([v, u, 0, 0, 0, 0, 0, 0] : List Int64), []⟩ l3).r.getD 0 0)).toInt)) (y_assign rfl) rfl ?_
    refine wpL_nil ?_
    refine thenS_n ?_
    refine wpS_ret ?_
    refine fin1 (v := .int .i64 ((((runM 0 ⟨([v, u, 0, 0, 0, 0, 0, 0] : List Int64), []⟩ l3).r.getD 0 0)).toInt)) (.inr rfl) (.nil) Try.results180 rfl ?_
    exact fun w' hs => ⟨congrArg (fun z : Int64 => Ending.returned (.int .i64 z.toInt)) ((by unfold doneC; rw [if_pos hok]; rfl)), hs⟩

theorem rstep_c (kz : Int) (a1 a2 a3 : Option Addr) (n1 c1 n2 c2 n3 c3 : Nat) (l1 l2 l3 : List Opc) (cr : Rec) (ga : Option Addr) (gn gc : Nat) (l : List Rec) (w : World) (hn1 : l1.length = n1) (hr1 : Rds w a1 (l1.flatMap opcV)) (hb1 : n1 ≤ 1000000) (hn2 : l2.length = n2) (hr2 : Rds w a2 (l2.flatMap opcV)) (hb2 : n2 ≤ 1000000) (hn3 : l3.length = n3) (hr3 : Rds w a3 (l3.flatMap opcV)) (hb3 : n3 ≤ 1000000) (hn : l.length = gn) (hr : Rds w ga (l.flatMap recV)) (hb : gn ≤ 1000000) : Makes Try.prog 92 #[.agg #[.int .i64 kz, .slice a1 n1 c1, .slice a2 n2 c2, .slice a3 n3 c3], .agg #[.bool (cr.dead), .int .i64 (cr.key.toInt), .int .i64 (cr.value.toInt), .int .i64 (cr.seq.toInt)], .slice ga gn gc] w [] (X := Option Addr × Nat) (fun x => .tuple #[slV (stepO (chkB kz l1 l2 l3) l2 l3 cr l) x, .agg #[.bool ((stepC (chkB kz l1 l2 l3) l2 l3 cr l).dead), .int .i64 (((stepC (chkB kz l1 l2 l3) l2 l3 cr l).key).toInt), .int .i64 (((stepC (chkB kz l1 l2 l3) l2 l3 cr l).value).toInt), .int .i64 (((stepC (chkB kz l1 l2 l3) l2 l3 cr l).seq).toInt)]]) (fun x => [slR recV 4 23 (stepO (chkB kz l1 l2 l3) l2 l3 cr l) x]) (fun _ => True) := by
  refine calls_S (n := 85) (σ0 := (upd (upd (upd fr0 0 (.agg #[.int .i64 kz, .slice a1 n1 c1, .slice a2 n2 c2, .slice a3 n3 c3])) 1 (.agg #[.bool (cr.dead), .int .i64 (cr.key.toInt), .int .i64 (cr.value.toInt), .int .i64 (cr.seq.toInt)])) 2 (.slice ga gn gc))) (D := []) (A := []) Try.func92 rfl Try.ntmps92 rfl (a3_fr _ _ _) (SH.start w) ?_
  refine wpS_seq ?_
  refine wpS_region ?_
  refine s_e rfl ?_
  refine e_box (v := .agg #[.int .i64 kz, .slice a1 n1 c1, .slice a2 n2 c2, .slice a3 n3 c3]) (l := [.int .i64 kz, .slice a1 n1 c1, .slice a2 n2 c2, .slice a3 n3 c3]) rfl rfl ?_
  intro b_1
  refine s_e rfl ?_
  refine e_box (v := .agg #[.bool (cr.dead), .int .i64 (cr.key.toInt), .int .i64 (cr.value.toInt), .int .i64 (cr.seq.toInt)]) (l := [.bool (cr.dead), .int .i64 (cr.key.toInt), .int .i64 (cr.value.toInt), .int .i64 (cr.seq.toInt)]) rfl rfl ?_
  intro b_2
  refine s_y (v := .slice none 0 0) (y_assign rfl) rfl ?_
  refine s_e rfl ?_
  refine e_alloc (l := [.bool false, .int .i64 0, .int .i64 0, .int .i64 0]) Try.zeroValue23 rfl ?_
  intro b_3
  refine wpL_nil ?_
  refine thenS_n ?_
  refine wpS_seq ?_
  refine wpS_seq ?_
  refine wpS_region ?_
  refine s_y (v := .agg #[.int .i64 kz, .slice a1 n1 c1, .slice a2 n2 c2, .slice a3 n3 c3]) (y_loadN (vs := [.int .i64 kz, .slice a1 n1 c1, .slice a2 n2 c2, .slice a3 n3 c3]) rfl Try.isAgg84 Try.sizeOf84 (ownN (.t (.t .h)) rfl)) rfl ?_
  refine s_y (v := .int .i64 (chk11 kz l1 l2 l3)) (y_call (args := #[.agg #[.int .i64 kz, .slice a1 n1 c1, .slice a2 n2 c2, .slice a3 n3 c3]]) (v := .int .i64 (chk11 kz l1 l2 l3)) Try.call93 (ev1 rfl) (fun w hs => rcheck_c kz a1 a2 a3 n1 c1 n2 c2 n3 c3 l1 l2 l3 w hn1 ((oldR hr1) w hs) (by omega) hn2 ((oldR hr2) w hs) (by omega) hn3 ((oldR hr3) w hs) (by omega))) rfl ?_
  refine s_y (v := .bool (decide ((chk11 kz l1 l2 l3 : Int) ≠ 0))) (y_neq (a := chk11 kz l1 l2 l3) (b := 0) rfl rfl rfl) rfl ?_
  refine wpL_nil ?_
  refine thenS_n ?_
  refine wpS_cond (t := decide ((chk11 kz l1 l2 l3 : Int) ≠ 0)) rfl (fun b4 => ?_) (fun b4 => ?_)
  · -- decide ((chk11 kz l1 l2 l3 : Int) ≠ 0) true
    have p4 := of_decide_eq_true b4
    have hno : chkB kz l1 l2 l3 = false := chk_no p4
    refine wpS_seq ?_
    refine wpS_region ?_
    refine s_y (v := .agg #[.bool (deadR.dead), .int .i64 (deadR.key.toInt), .int .i64 (deadR.value.toInt), .int .i64 (deadR.seq.toInt)]) (y_call (args := #[]) (v := .agg #[.bool (deadR.dead), .int .i64 (deadR.key.toInt), .int .i64 (deadR.value.toInt), .int .i64 (deadR.seq.toInt)]) Try.call178 ev0 (fun w hs => refdead_c w)) rfl ?_
    refine s_y (v := .slice none 0 0) (y_assign rfl) rfl ?_
    refine s_e0 ?_
    refine e_store (vs := [.bool (deadR.dead), .int .i64 (deadR.key.toInt), .int .i64 (deadR.value.toInt), .int .i64 (deadR.seq.toInt)]) (l' := [.bool (deadR.dead), .int .i64 (deadR.key.toInt), .int .i64 (deadR.value.toInt), .int .i64 (deadR.seq.toInt)]) rfl rfl rfl rfl Try.sizeOf23 .h (Nat.le_of_ble_eq_true rfl) rfl ?_
    refine wpL_nil ?_
    refine thenS_n ?_
    refine wpS_ret ?_
    refine thenS_r ?_
    refine fin2 (M := [cel b_3 23 [.bool (deadR.dead), .int .i64 (deadR.key.toInt), .int .i64 (deadR.value.toInt), .int .i64 (deadR.seq.toInt)]]) (.inr rfl) (.p .h .nil) Try.results92 (rvT (v := .slice none 0 0) rfl) (rvC (vs := [.bool (deadR.dead), .int .i64 (deadR.key.toInt), .int .i64 (deadR.value.toInt), .int .i64 (deadR.seq.toInt)]) rfl Try.isAgg23 Try.sizeOf23 (fun w hs => ownN .h rfl w hs)) ?_
    have e1 : stepO (chkB kz l1 l2 l3) l2 l3 cr l = [] := by unfold stepO; rw [if_neg (by rw [hno]; decide)]
    have e2 : stepC (chkB kz l1 l2 l3) l2 l3 cr l = deadR := by unfold stepC; rw [if_neg (by rw [hno]; decide)]
    exact fun w' hs => ⟨(none, 0), by rw [e1, e2]; rfl, by rw [e1]; exact (SH.nil0 w' hs).ent (.p .h .nil), trivial⟩
  · -- decide ((chk11 kz l1 l2 l3 : Int) ≠ 0) false
    have p4 := of_decide_eq_false b4
    have hok : chkB kz l1 l2 l3 = true := chk_yes (Decidable.not_not.1 p4)
    refine wpS_skip ?_
    refine thenS_n ?_
    refine wpS_seq ?_
    refine wpS_region ?_
    refine s_y (v := .slice none 0 0) (y_assign rfl) rfl ?_
    refine wpL_nil ?_
    refine thenS_n ?_
    refine wpS_seq ?_
    refine wpS_seq ?_
    refine wpS_region ?_
    refine s_y (v := .int .i64 0) (y_assign rfl) rfl ?_
    refine wpL_nil ?_
    refine thenS_n ?_
    refine wpS_block ?_
    refine wpS_nil0 4 23 ?_
    refine wpS_loop (fun mez ds σ L => ∃ i : Nat, ∃ os : List Rec, ∃ cx : Rec, ∃ cq : Rec, ∃ b1 : Option Addr, ∃ d1 : Nat, mez = gn - i ∧ (i ≤ gn) ∧ (os.length = i) ∧ (run15 (chkB kz l1 l2 l3) l2 l3 ([], cr) (l.take i) = (os, cx)) ∧ (normC cx = normC cq) ∧ ds = [] ∧ σ 2 = .slice ga gn gc ∧ σ 3 = .pointer (some ⟨b_1, 0, none⟩) ∧ σ 4 = .pointer (some ⟨b_2, 0, none⟩) ∧ σ 7 = .pointer (some ⟨b_3, 0, none⟩) ∧ σ 8 = .slice b1 os.length d1 ∧ σ 9 = .int .i64 (((i : Nat) : Int)) ∧ Ent L [osl b1 d1 os.length 4 23 (os.flatMap recV), cel b_3 23 [.bool false, .int .i64 0, .int .i64 0, .int .i64 0], cel b_2 23 [.bool (cq.dead), .int .i64 (cq.key.toInt), .int .i64 (cq.value.toInt), .int .i64 (cq.seq.toInt)], cel b_1 84 [.int .i64 kz, .slice a1 n1 c1, .slice a2 n2 c2, .slice a3 n3 c3]]) (m0 := gn - 0) ⟨0, [], cr, cr, none, 0, rfl, by omega, rfl, rfl, rfl, rfl, rfl, rfl, rfl, rfl, rfl, rfl, .p .h (.p .h (.p .h (.p .h .nil)))⟩ ?_
    rintro mez ds σ L ⟨i, os, cx, cq, b1, d1, hm_5, hf0_5, hf1_5, hf2_5, hf3_5, rfl, h2_5, h3_5, h4_5, h7_5, h8_5, h9_5, hE_5⟩
    refine wpS_ent hE_5 ?_; clear hE_5
    refine wpS_seq ?_
    refine wpS_seq ?_
    refine wpS_region ?_
    refine s_y (v := .int .i64 (((i : Nat) : Int))) (y_move h9_5) rfl ?_
    refine s_y (v := .slice ga gn gc) (y_move h2_5) rfl ?_
    refine s_y (v := .int .i64 (((gn : Nat) : Int))) (y_len (ty' := 0) (at_ := #[]) rfl Try.underlying69) rfl ?_
    refine s_y (v := .bool (decide (i < gn))) (y_lss (a := ((i : Nat) : Int)) (b := ((gn : Nat) : Int)) (c := decide (i < gn)) rfl rfl (decide_eq_decide.2 (by omega))) rfl ?_
    refine wpL_nil ?_
    refine thenS_n ?_
    refine wpS_cond (t := decide (i < gn)) rfl (fun b6 => ?_) (fun b6 => ?_)
    · -- decide (i < gn) true
      have p6 := of_decide_eq_true b6
      refine wpS_skip ?_
      refine thenS_n ?_
      refine wpS_seq ?_
      refine wpS_block ?_
      refine wpS_seq ?_
      refine wpS_region ?_
      refine s_y (v := .slice ga gn gc) (y_move h2_5) rfl ?_
      refine s_y (v := .int .i64 (((i : Nat) : Int))) (y_move h9_5) rfl ?_
      refine s_y (v := .pointer (some ⟨aB ga, aO ga + i * 4, none⟩)) (y_idx (o := i * 4) rfl rfl Try.underlying69 Try.sizeOf23 (oldR hr) ((fl_len recV_len _).trans (by first | omega | (simp only [List.length_set, List.length_take, List.length_drop]; done) | (simp only [List.length_set, List.length_take, List.length_drop]; omega))) (by decide) (by omega) (by omega) (by omega)) rfl ?_
      refine s_y (v := .agg #[.bool ((l.getD i default).dead), .int .i64 (((l.getD i default).key).toInt), .int .i64 (((l.getD i default).value).toInt), .int .i64 (((l.getD i default).seq).toInt)]) (y_loadN (vs := recV (l.getD i default)) rfl Try.isAgg23 Try.sizeOf23 (rdN (oldR hr) (fl_getN recV_len l i (by first | omega | (simp only [List.length_set, List.length_take, List.length_drop]; done) | (simp only [List.length_set, List.length_take, List.length_drop]; omega))))) rfl ?_
      refine s_e rfl ?_
      refine e_alloc (l := [.bool false, .int .i64 0, .int .i64 0, .int .i64 0]) Try.zeroValue23 rfl ?_
      intro b_7
      refine s_e0 ?_
      refine e_store (vs := [.bool ((l.getD i default).dead), .int .i64 (((l.getD i default).key).toInt), .int .i64 (((l.getD i default).value).toInt), .int .i64 (((l.getD i default).seq).toInt)]) (l' := [.bool ((l.getD i default).dead), .int .i64 (((l.getD i default).key).toInt), .int .i64 (((l.getD i default).value).toInt), .int .i64 (((l.getD i default).seq).toInt)]) rfl rfl rfl rfl Try.sizeOf23 .h (Nat.le_of_ble_eq_true rfl) rfl ?_
      refine wpL_nil ?_
      refine thenS_n ?_
      refine wpS_seq ?_
      refine wpS_region ?_
      refine s_y (v := .agg #[.bool (deadR.dead), .int .i64 (deadR.key.toInt), .int .i64 (deadR.value.toInt), .int .i64 (deadR.seq.toInt)]) (y_call (args := #[]) (v := .agg #[.bool (deadR.dead), .int .i64 (deadR.key.toInt), .int .i64 (deadR.value.toInt), .int .i64 (deadR.seq.toInt)]) Try.call178 ev0 (fun w hs => refdead_c w)) rfl ?_
      refine s_e rfl ?_
      refine e_alloc (l := [.bool false, .int .i64 0, .int .i64 0, .int .i64 0]) Try.zeroValue23 rfl ?_
      intro b_8
      refine s_e0 ?_
      refine e_store (vs := [.bool (deadR.dead), .int .i64 (deadR.key.toInt), .int .i64 (deadR.value.toInt), .int .i64 (deadR.seq.toInt)]) (l' := [.bool (deadR.dead), .int .i64 (deadR.key.toInt), .int .i64 (deadR.value.toInt), .int .i64 (deadR.seq.toInt)]) rfl rfl rfl rfl Try.sizeOf23 .h (Nat.le_of_ble_eq_true rfl) rfl ?_
      refine wpL_nil ?_
      refine thenS_n ?_
      refine wpS_seq ?_
      refine wpS_seq ?_
      refine wpS_region ?_
      refine s_y (v := .pointer (some ⟨b_7, 0, none⟩)) (y_fieldAddr (o' := 0) rfl Try.underlying23 rfl Try.sizeOf4 (by decide) rfl) rfl ?_
      refine s_y (v := .bool ((l.getD i default).dead)) (y_load1 rfl Try.isAgg4 (own1 (.t .h) rfl)) rfl ?_
      refine s_y (v := .bool (!((l.getD i default).dead))) (y_not (b := (l.getD i default).dead) rfl) rfl ?_
      refine s_y (v := .bool (!((l.getD i default).dead))) (y_move rfl) rfl ?_
      rcases Bool.eq_false_or_eq_true (!((l.getD i default).dead)) with b9 | b9
      · -- !((l.getD i default).dead) True
        have b10 : ((l.getD i default).dead) = false := by simpa using b9
        refine s_gy (y_fieldAddr (o' := 0) h4_5 Try.underlying23 rfl Try.sizeOf4 (by decide) rfl) rfl rfl rfl rfl (b' := !((l.getD i default).dead)) rfl b9 ?_
        refine s_gy (y_load1 rfl Try.isAgg4 (own1 (.t (.t (.t (.t .h)))) rfl)) rfl rfl rfl rfl (b' := !((l.getD i default).dead)) rfl b9 ?_
        refine s_gy (y_not (b := cq.dead) rfl) rfl rfl rfl rfl (b' := !((l.getD i default).dead)) rfl b9 ?_
        refine s_y (v := .bool (!cq.dead)) (y_pickT (b := !((l.getD i default).dead)) (v := .bool (!cq.dead)) rfl b9 rfl) rfl ?_
        refine s_y (v := .bool (!cq.dead)) (y_move rfl) rfl ?_
        rcases Bool.eq_false_or_eq_true (!cq.dead) with b11 | b11
        · -- !cq.dead True
          have b12 : cq.dead = false := by simpa using b11
          refine s_gy (y_fieldAddr (o' := 1) rfl Try.underlying23 rfl Try.sizeOf2 (by decide) rfl) rfl rfl rfl rfl (b' := !cq.dead) rfl b11 ?_
          refine s_gy (y_load1 rfl Try.isAgg2 (own1 (.t .h) rfl)) rfl rfl rfl rfl (b' := !cq.dead) rfl b11 ?_
          refine s_gy (y_fieldAddr (o' := 1) h4_5 Try.underlying23 rfl Try.sizeOf2 (by decide) rfl) rfl rfl rfl rfl (b' := !cq.dead) rfl b11 ?_
          refine s_gy (y_load1 rfl Try.isAgg2 (own1 (.t (.t (.t (.t .h)))) rfl)) rfl rfl rfl rfl (b' := !cq.dead) rfl b11 ?_
          refine s_gy (y_eql (a := ((l.getD i default).key).toInt) (b := cq.key.toInt) (c := decide (((l.getD i default).key) = cq.key)) rfl rfl (i_eql _ _)) rfl rfl rfl rfl (b' := !cq.dead) rfl b11 ?_
          refine s_y (v := .bool (decide (((l.getD i default).key) = cq.key))) (y_pickT (b := !cq.dead) (v := .bool (decide (((l.getD i default).key) = cq.key))) rfl b11 rfl) rfl ?_
          refine wpL_nil ?_
          refine thenS_n ?_
          refine wpS_cond (t := decide (((l.getD i default).key) = cq.key)) rfl (fun b13 => ?_) (fun b13 => ?_)
          · -- decide (((l.getD i default).key) = cq.key) true
            have p13 := of_decide_eq_true b13
            refine wpS_anyL [cel b_7 23 [.bool ((l.getD i default).dead), .int .i64 (((l.getD i default).key).toInt), .int .i64 (((l.getD i default).value).toInt), .int .i64 (((l.getD i default).seq).toInt)], cel b_2 23 [.bool (cq.dead), .int .i64 (cq.key.toInt), .int .i64 (cq.value.toInt), .int .i64 (cq.seq.toInt)], cel b_1 84 [.int .i64 kz, .slice a1 n1 c1, .slice a2 n2 c2, .slice a3 n3 c3]] [9] (by kernel_rfl) ?_
            refine anyS_take (i := 0) rfl (by kernel_rfl) (by kernel_rfl) (by kernel_rfl) (by kernel_rfl) (Yq.of (v := .pointer (some ⟨b_2, 1, none⟩)) (y_fieldAddr (o' := 1) h4_5 Try.underlying23 rfl Try.sizeOf2 (by decide) rfl) rfl) (.p (.t .h) (.p (.t (.t (.t .h))) (.p (.t (.t (.t .h))) .nil))) ?_
            refine anyS_take (i := 1) rfl (by kernel_rfl) (by kernel_rfl) (by kernel_rfl) (by kernel_rfl) (Yq.of (v := .int .i64 (cq.key.toInt)) (y_load1 rfl Try.isAgg2 (own1 (.t .h) rfl)) rfl) (.p (.t .h) (.p (.t (.t (.t .h))) (.p (.t (.t (.t .h))) .nil))) ?_
            refine anyS_take (i := 2) rfl (by kernel_rfl) (by kernel_rfl) (by kernel_rfl) (by kernel_rfl) (Yq.of (v := .agg #[.int .i64 kz, .slice a1 n1 c1, .slice a2 n2 c2, .slice a3 n3 c3]) (y_loadN (vs := [.int .i64 kz, .slice a1 n1 c1, .slice a2 n2 c2, .slice a3 n3 c3]) h3_5 Try.isAgg84 Try.sizeOf84 (ownN (.t (.t .h)) rfl)) rfl) (.p (.t .h) (.p (.t (.t (.t .h))) (.p (.t (.t (.t .h))) .nil))) ?_
            refine anyS_take (i := 3) rfl (by kernel_rfl) (by kernel_rfl) (by kernel_rfl) (by kernel_rfl) (Yq.of (v := .pointer (some ⟨b_2, 2, none⟩)) (y_fieldAddr (o' := 2) h4_5 Try.underlying23 rfl Try.sizeOf2 (by decide) rfl) rfl) (.p (.t .h) (.p (.t (.t (.t .h))) (.p (.t (.t (.t .h))) .nil))) ?_
            refine anyS_take (i := 4) rfl (by kernel_rfl) (by kernel_rfl) (by kernel_rfl) (by kernel_rfl) (Yq.of (v := .int .i64 (cq.value.toInt)) (y_load1 rfl Try.isAgg2 (own1 (.t .h) rfl)) rfl) (.p (.t .h) (.p (.t (.t (.t .h))) (.p (.t (.t (.t .h))) .nil))) ?_
            refine anyS_take (i := 5) rfl (by kernel_rfl) (by kernel_rfl) (by kernel_rfl) (by kernel_rfl) (Yq.of (v := .pointer (some ⟨b_7, 2, none⟩)) (y_fieldAddr (o' := 2) rfl Try.underlying23 rfl Try.sizeOf2 (by decide) rfl) rfl) (.p (.t .h) (.p (.t (.t (.t .h))) (.p (.t (.t (.t .h))) .nil))) ?_
            refine anyS_take (i := 6) rfl (by kernel_rfl) (by kernel_rfl) (by kernel_rfl) (by kernel_rfl) (Yq.of (v := .int .i64 (((l.getD i default).value).toInt)) (y_load1 rfl Try.isAgg2 (own1 .h rfl)) rfl) (.p (.t .h) (.p (.t (.t (.t .h))) (.p (.t (.t (.t .h))) .nil))) ?_
            refine anyS_take (i := 7) rfl (by kernel_rfl) (by kernel_rfl) (by kernel_rfl) (by kernel_rfl) (Yq.of (v := .int .i64 (((doneC (chkB kz l1 l2 l3) l2 cq.value ((l.getD i default).value))).toInt)) (y_call (args := #[.agg #[.int .i64 kz, .slice a1 n1 c1, .slice a2 n2 c2, .slice a3 n3 c3], .int .i64 (cq.value.toInt), .int .i64 (((l.getD i default).value).toInt)]) (v := .int .i64 (((doneC (chkB kz l1 l2 l3) l2 cq.value ((l.getD i default).value))).toInt)) Try.call179 (ev3 rfl rfl rfl) (fun w hs => rfold_c kz a1 a2 a3 n1 c1 n2 c2 n3 c3 l1 l2 l3 cq.value ((l.getD i default).value) w hn1 ((oldR hr1) w hs) (by omega) hn2 ((oldR hr2) w hs) (by omega) hn3 ((oldR hr3) w hs) (by omega))) rfl) (.p (.t .h) (.p (.t (.t (.t .h))) (.p (.t (.t (.t .h))) .nil))) ?_
            refine anyS_take (i := 8) rfl (by kernel_rfl) (by kernel_rfl) (by kernel_rfl) (by kernel_rfl) (Yq.of (v := .agg #[.bool false, .int .i64 (cq.key.toInt), .int .i64 (((doneC (chkB kz l1 l2 l3) l2 cq.value ((l.getD i default).value))).toInt), .int .i64 0]) (y_buildL (m := [(1, .int .i64 (cq.key.toInt)), (2, .int .i64 (((doneC (chkB kz l1 l2 l3) l2 cq.value ((l.getD i default).value))).toInt))]) (vs := #[.bool false, .int .i64 (cq.key.toInt), .int .i64 (((doneC (chkB kz l1 l2 l3) l2 cq.value ((l.getD i default).value))).toInt), .int .i64 0]) (evc rfl (evc rfl evn)) (fun w => by kernel_rfl)) rfl) (.p (.t .h) (.p (.t (.t (.t .h))) (.p (.t (.t (.t .h))) .nil))) ?_
            refine anyS_all (rs := [9]) (by kernel_rfl) (by simp) ?_
            intro i hi; obtain rfl := List.mem_singleton.1 hi; clear hi
            refine opS_0 rfl rfl ?_
            refine e_store (vs := [.bool false, .int .i64 (cq.key.toInt), .int .i64 (((doneC (chkB kz l1 l2 l3) l2 cq.value ((l.getD i default).value))).toInt), .int .i64 0]) (l' := [.bool false, .int .i64 (cq.key.toInt), .int .i64 (((doneC (chkB kz l1 l2 l3) l2 cq.value ((l.getD i default).value))).toInt), .int .i64 0]) h4_5 rfl rfl rfl Try.sizeOf23 (.t (.t (.t (.t .h)))) (Nat.le_of_ble_eq_true rfl) rfl ?_
            refine ⟨.inl (by simp), ?_⟩
            refine anyS_done (by kernel_rfl) ?_
            refine thenS_n ?_
            refine wpS_region ?_
            refine s_y (v := .slice b1 os.length d1) (y_move h8_5) rfl ?_
            refine s_y (v := .agg #[.bool (deadR.dead), .int .i64 (deadR.key.toInt), .int .i64 (deadR.value.toInt), .int .i64 (deadR.seq.toInt)]) (y_loadN (vs := [.bool (deadR.dead), .int .i64 (deadR.key.toInt), .int .i64 (deadR.value.toInt), .int .i64 (deadR.seq.toInt)]) rfl Try.isAgg23 Try.sizeOf23 (ownN (.t .h) rfl)) rfl ?_
            refine s_e rfl ?_
            refine e_bsliceL (e := 23) (m := [(0, .agg #[.bool (deadR.dead), .int .i64 (deadR.key.toInt), .int .i64 (deadR.value.toInt), .int .i64 (deadR.seq.toInt)])]) (l := [.bool (deadR.dead), .int .i64 (deadR.key.toInt), .int .i64 (deadR.value.toInt), .int .i64 (deadR.seq.toInt)]) (evc rfl evn) (fun w => by kernel_rfl) ?_
            intro b_14
            refine s_e rfl ?_
            refine e_appendL (enc := recV) (xs := (os : List Rec)) (ns := ([deadR] : List Rec)) (zs := (os ++ [deadR])) (bytes := 32) recV_len recV_one Try.underlying69 (i := Try.t23) rfl rfl rfl rfl rfl (by decide) rfl rfl (by first | rfl | omega) (by first | rfl | omega) (.t (.t (.t (.t .h)))) (fun w hs => celR .h w hs) (by first | rfl | simp) (by (try simp only [List.length_append, List.length_cons, List.length_nil] at *); omega) (by (try simp only [List.length_append, List.length_cons, List.length_nil] at *); omega) ?_
            intro a_15 c_16
            refine s_y (v := .slice a_15 ((os ++ [deadR]).length) c_16) (y_assign rfl) rfl ?_
            refine wpL_nil ?_
            refine blockS_n ?_
            refine thenS_n ?_
            refine wpS_region ?_
            refine s_y (v := .int .i64 (((i : Nat) : Int))) (y_move h9_5) rfl ?_
            refine s_y (v := .int .i64 ((((i + 1) : Nat) : Int))) (y_add (a := ((i : Nat) : Int)) (b := 1) (c := (((i + 1) : Nat) : Int)) rfl rfl (wI (by omega) (by omega) (by omega))) rfl ?_
            refine s_y (v := .int .i64 ((((i + 1) : Nat) : Int))) (y_assign rfl) rfl ?_
            refine wpL_nil ?_
            refine thenS_n ?_
            exact ⟨_, by omega, ⟨(i + 1), (os ++ [deadR]), (cstp (chkB kz l1 l2 l3) l2 l3 cx (l.getD i default)).2, (Rec.mk false cq.key (doneC (chkB kz l1 l2 l3) l2 cq.value ((l.getD i default).value)) 0), a_15, c_16, rfl, by omega, (by rw [List.length_append, List.length_singleton]; omega), (by first | exact (rr_1 (by assumption) (by omega) (by assumption) (by assumption) (by assumption) (by assumption)).1 | exact (rr_a (by assumption) (by omega) (by assumption) (by assumption) (by assumption)).1 | exact (rr_b (by assumption) (by omega) (by assumption) (by assumption) (by assumption)).1 | exact (rr_c (by assumption) (by omega) (by assumption) (by assumption) (by assumption)).1 | exact (rr_d (by assumption) (by omega) (by assumption) (by assumption) (by assumption) (by assumption)).1), (by first | exact (rr_1 (by assumption) (by omega) (by assumption) (by assumption) (by assumption) (by assumption)).2 | exact (rr_a (by assumption) (by omega) (by assumption) (by assumption) (by assumption)).2 | exact (rr_b (by assumption) (by omega) (by assumption) (by assumption) (by assumption)).2 | exact (rr_c (by assumption) (by omega) (by assumption) (by assumption) (by assumption)).2 | exact (rr_d (by assumption) (by omega) (by assumption) (by assumption) (by assumption) (by assumption)).2), rfl, h2_5, h3_5, h4_5, h7_5, rfl, rfl, .p .h (.p (.t (.t (.t (.t .h)))) (.p (.t .h) (.p (.t (.t (.t .h))) .nil)))⟩⟩
          · -- decide (((l.getD i default).key) = cq.key) false
            have p13 := of_decide_eq_false b13
            refine wpS_seq ?_
            refine wpS_seq ?_
            refine wpS_region ?_
            refine s_y (v := .pointer (some ⟨b_2, 0, none⟩)) (y_fieldAddr (o' := 0) h4_5 Try.underlying23 rfl Try.sizeOf4 (by decide) rfl) rfl ?_
            refine s_y (v := .bool (cq.dead)) (y_load1 rfl Try.isAgg4 (own1 (.t (.t (.t (.t .h)))) rfl)) rfl ?_
            refine s_y (v := .bool (!cq.dead)) (y_not (b := cq.dead) rfl) rfl ?_
            refine wpL_nil ?_
            refine thenS_n ?_
            refine wpS_cond_T (t := !cq.dead) rfl b11 ?_
            refine wpS_anyL [cel b_2 23 [.bool (cq.dead), .int .i64 (cq.key.toInt), .int .i64 (cq.value.toInt), .int .i64 (cq.seq.toInt)], cel b_1 84 [.int .i64 kz, .slice a1 n1 c1, .slice a2 n2 c2, .slice a3 n3 c3]] [] (by kernel_rfl) ?_
            refine anyS_take (i := 0) rfl (by kernel_rfl) (by kernel_rfl) (by kernel_rfl) (by kernel_rfl) (Yq.of (v := .pointer (some ⟨b_2, 1, none⟩)) (y_fieldAddr (o' := 1) h4_5 Try.underlying23 rfl Try.sizeOf2 (by decide) rfl) rfl) (.p (.t (.t (.t (.t .h)))) (.p (.t (.t (.t (.t .h)))) .nil)) ?_
            refine anyS_take (i := 1) rfl (by kernel_rfl) (by kernel_rfl) (by kernel_rfl) (by kernel_rfl) (Yq.of (v := .int .i64 (cq.key.toInt)) (y_load1 rfl Try.isAgg2 (own1 .h rfl)) rfl) (.p (.t (.t (.t (.t .h)))) (.p (.t (.t (.t (.t .h)))) .nil)) ?_
            refine anyS_take (i := 2) rfl (by kernel_rfl) (by kernel_rfl) (by kernel_rfl) (by kernel_rfl) (Yq.of (v := .agg #[.int .i64 kz, .slice a1 n1 c1, .slice a2 n2 c2, .slice a3 n3 c3]) (y_loadN (vs := [.int .i64 kz, .slice a1 n1 c1, .slice a2 n2 c2, .slice a3 n3 c3]) h3_5 Try.isAgg84 Try.sizeOf84 (ownN (.t .h) rfl)) rfl) (.p (.t (.t (.t (.t .h)))) (.p (.t (.t (.t (.t .h)))) .nil)) ?_
            refine anyS_take (i := 3) rfl (by kernel_rfl) (by kernel_rfl) (by kernel_rfl) (by kernel_rfl) (Yq.of (v := .pointer (some ⟨b_2, 1, none⟩)) (y_fieldAddr (o' := 1) h4_5 Try.underlying23 rfl Try.sizeOf2 (by decide) rfl) rfl) (.p (.t (.t (.t (.t .h)))) (.p (.t (.t (.t (.t .h)))) .nil)) ?_
            refine anyS_take (i := 4) rfl (by kernel_rfl) (by kernel_rfl) (by kernel_rfl) (by kernel_rfl) (Yq.of (v := .int .i64 (cq.key.toInt)) (y_load1 rfl Try.isAgg2 (own1 .h rfl)) rfl) (.p (.t (.t (.t (.t .h)))) (.p (.t (.t (.t (.t .h)))) .nil)) ?_
            refine anyS_take (i := 5) rfl (by kernel_rfl) (by kernel_rfl) (by kernel_rfl) (by kernel_rfl) (Yq.of (v := .pointer (some ⟨b_2, 2, none⟩)) (y_fieldAddr (o' := 2) h4_5 Try.underlying23 rfl Try.sizeOf2 (by decide) rfl) rfl) (.p (.t (.t (.t (.t .h)))) (.p (.t (.t (.t (.t .h)))) .nil)) ?_
            refine anyS_take (i := 6) rfl (by kernel_rfl) (by kernel_rfl) (by kernel_rfl) (by kernel_rfl) (Yq.of (v := .int .i64 (cq.value.toInt)) (y_load1 rfl Try.isAgg2 (own1 .h rfl)) rfl) (.p (.t (.t (.t (.t .h)))) (.p (.t (.t (.t (.t .h)))) .nil)) ?_
            refine anyS_take (i := 7) rfl (by kernel_rfl) (by kernel_rfl) (by kernel_rfl) (by kernel_rfl) (Yq.of (v := .int .i64 (((doneC (chkB kz l1 l2 l3) l3 cq.value cq.key)).toInt)) (y_call (args := #[.agg #[.int .i64 kz, .slice a1 n1 c1, .slice a2 n2 c2, .slice a3 n3 c3], .int .i64 (cq.key.toInt), .int .i64 (cq.value.toInt)]) (v := .int .i64 (((doneC (chkB kz l1 l2 l3) l3 cq.value cq.key)).toInt)) Try.call180 (ev3 rfl rfl rfl) (fun w hs => rfinish_c kz a1 a2 a3 n1 c1 n2 c2 n3 c3 l1 l2 l3 cq.key cq.value w hn1 ((oldR hr1) w hs) (by omega) hn2 ((oldR hr2) w hs) (by omega) hn3 ((oldR hr3) w hs) (by omega))) rfl) (.p (.t (.t (.t (.t .h)))) (.p (.t (.t (.t (.t .h)))) .nil)) ?_
            refine anyS_take (i := 8) rfl (by kernel_rfl) (by kernel_rfl) (by kernel_rfl) (by kernel_rfl) (Yq.of (v := .agg #[.bool false, .int .i64 (cq.key.toInt), .int .i64 (((doneC (chkB kz l1 l2 l3) l3 cq.value cq.key)).toInt), .int .i64 0]) (y_buildL (m := [(1, .int .i64 (cq.key.toInt)), (2, .int .i64 (((doneC (chkB kz l1 l2 l3) l3 cq.value cq.key)).toInt))]) (vs := #[.bool false, .int .i64 (cq.key.toInt), .int .i64 (((doneC (chkB kz l1 l2 l3) l3 cq.value cq.key)).toInt), .int .i64 0]) (evc rfl (evc rfl evn)) (fun w => by kernel_rfl)) rfl) (.p (.t (.t (.t (.t .h)))) (.p (.t (.t (.t (.t .h)))) .nil)) ?_
            refine anyS_all (rs := [9]) (by kernel_rfl) (by simp) ?_
            intro i hi; obtain rfl := List.mem_singleton.1 hi; clear hi
            refine opS_0 rfl rfl ?_
            refine e_store (vs := [.bool false, .int .i64 (cq.key.toInt), .int .i64 (((doneC (chkB kz l1 l2 l3) l3 cq.value cq.key)).toInt), .int .i64 0]) (l' := [.bool false, .int .i64 (cq.key.toInt), .int .i64 (((doneC (chkB kz l1 l2 l3) l3 cq.value cq.key)).toInt), .int .i64 0]) rfl rfl rfl rfl Try.sizeOf23 .h (Nat.le_of_ble_eq_true rfl) rfl ?_
            refine ⟨.inr (.p (.t (.t (.t (.t .h)))) (.p (.t (.t (.t (.t .h)))) .nil)), ?_⟩
            refine anyS_done (by kernel_rfl) ?_
            refine thenS_n ?_
            refine wpS_seq ?_
            refine wpS_region ?_
            refine s_y (v := .pointer (some ⟨b_7, 0, none⟩)) (y_fieldAddr (o' := 0) rfl Try.underlying23 rfl Try.sizeOf4 (by decide) rfl) rfl ?_
            refine s_y (v := .bool ((l.getD i default).dead)) (y_load1 rfl Try.isAgg4 (own1 (.t .h) rfl)) rfl ?_
            refine wpL_nil ?_
            refine thenS_n ?_
            refine wpS_cond_F (t := (l.getD i default).dead) rfl b10 ?_
            refine wpS_region ?_
            refine s_y (v := .pointer (some ⟨b_7, 1, none⟩)) (y_fieldAddr (o' := 1) rfl Try.underlying23 rfl Try.sizeOf2 (by decide) rfl) rfl ?_
            refine s_y (v := .int .i64 (((l.getD i default).key).toInt)) (y_load1 rfl Try.isAgg2 (own1 (.t .h) rfl)) rfl ?_
            refine s_y (v := .pointer (some ⟨b_7, 2, none⟩)) (y_fieldAddr (o' := 2) rfl Try.underlying23 rfl Try.sizeOf2 (by decide) rfl) rfl ?_
            refine s_y (v := .int .i64 (((l.getD i default).value).toInt)) (y_load1 rfl Try.isAgg2 (own1 (.t .h) rfl)) rfl ?_
            refine s_y (v := .agg #[.bool false, .int .i64 (((l.getD i default).key).toInt), .int .i64 (((l.getD i default).value).toInt), .int .i64 0]) (y_buildL (m := [(1, .int .i64 (((l.getD i default).key).toInt)), (2, .int .i64 (((l.getD i default).value).toInt))]) (vs := #[.bool false, .int .i64 (((l.getD i default).key).toInt), .int .i64 (((l.getD i default).value).toInt), .int .i64 0]) (evc rfl (evc rfl evn)) (fun w => by kernel_rfl)) rfl ?_
            refine s_e0 ?_
            refine e_store (vs := [.bool false, .int .i64 (((l.getD i default).key).toInt), .int .i64 (((l.getD i default).value).toInt), .int .i64 0]) (l' := [.bool false, .int .i64 (((l.getD i default).key).toInt), .int .i64 (((l.getD i default).value).toInt), .int .i64 0]) h4_5 rfl rfl rfl Try.sizeOf23 (.t (.t (.t (.t .h)))) (Nat.le_of_ble_eq_true rfl) rfl ?_
            refine wpL_nil ?_
            refine thenS_n ?_
            refine wpS_region ?_
            refine s_y (v := .slice b1 os.length d1) (y_move h8_5) rfl ?_
            refine s_y (v := .agg #[.bool false, .int .i64 (cq.key.toInt), .int .i64 (((doneC (chkB kz l1 l2 l3) l3 cq.value cq.key)).toInt), .int .i64 0]) (y_loadN (vs := [.bool false, .int .i64 (cq.key.toInt), .int .i64 (((doneC (chkB kz l1 l2 l3) l3 cq.value cq.key)).toInt), .int .i64 0]) rfl Try.isAgg23 Try.sizeOf23 (ownN (.t .h) rfl)) rfl ?_
            refine s_e rfl ?_
            refine e_bsliceL (e := 23) (m := [(0, .agg #[.bool false, .int .i64 (cq.key.toInt), .int .i64 (((doneC (chkB kz l1 l2 l3) l3 cq.value cq.key)).toInt), .int .i64 0])]) (l := [.bool false, .int .i64 (cq.key.toInt), .int .i64 (((doneC (chkB kz l1 l2 l3) l3 cq.value cq.key)).toInt), .int .i64 0]) (evc rfl evn) (fun w => by kernel_rfl) ?_
            intro b_17
            refine s_e rfl ?_
            refine e_appendL (enc := recV) (xs := (os : List Rec)) (ns := ([(Rec.mk false cq.key (doneC (chkB kz l1 l2 l3) l3 cq.value cq.key) 0)] : List Rec)) (zs := (os ++ [(Rec.mk false cq.key (doneC (chkB kz l1 l2 l3) l3 cq.value cq.key) 0)])) (bytes := 32) recV_len recV_one Try.underlying69 (i := Try.t23) rfl rfl rfl rfl rfl (by decide) rfl rfl (by first | rfl | omega) (by first | rfl | omega) (.t (.t (.t (.t .h)))) (fun w hs => celR .h w hs) (by first | rfl | simp) (by (try simp only [List.length_append, List.length_cons, List.length_nil] at *); omega) (by (try simp only [List.length_append, List.length_cons, List.length_nil] at *); omega) ?_
            intro a_18 c_19
            refine s_y (v := .slice a_18 ((os ++ [(Rec.mk false cq.key (doneC (chkB kz l1 l2 l3) l3 cq.value cq.key) 0)]).length) c_19) (y_assign rfl) rfl ?_
            refine wpL_nil ?_
            refine blockS_n ?_
            refine thenS_n ?_
            refine wpS_region ?_
            refine s_y (v := .int .i64 (((i : Nat) : Int))) (y_move h9_5) rfl ?_
            refine s_y (v := .int .i64 ((((i + 1) : Nat) : Int))) (y_add (a := ((i : Nat) : Int)) (b := 1) (c := (((i + 1) : Nat) : Int)) rfl rfl (wI (by omega) (by omega) (by omega))) rfl ?_
            refine s_y (v := .int .i64 ((((i + 1) : Nat) : Int))) (y_assign rfl) rfl ?_
            refine wpL_nil ?_
            refine thenS_n ?_
            exact ⟨_, by omega, ⟨(i + 1), (os ++ [(Rec.mk false cq.key (doneC (chkB kz l1 l2 l3) l3 cq.value cq.key) 0)]), (cstp (chkB kz l1 l2 l3) l2 l3 cx (l.getD i default)).2, (Rec.mk false ((l.getD i default).key) ((l.getD i default).value) 0), a_18, c_19, rfl, by omega, (by rw [List.length_append, List.length_singleton]; omega), (by first | exact (rr_1 (by assumption) (by omega) (by assumption) (by assumption) (by assumption) (by assumption)).1 | exact (rr_a (by assumption) (by omega) (by assumption) (by assumption) (by assumption)).1 | exact (rr_b (by assumption) (by omega) (by assumption) (by assumption) (by assumption)).1 | exact (rr_c (by assumption) (by omega) (by assumption) (by assumption) (by assumption)).1 | exact (rr_d (by assumption) (by omega) (by assumption) (by assumption) (by assumption) (by assumption)).1), (by first | exact (rr_1 (by assumption) (by omega) (by assumption) (by assumption) (by assumption) (by assumption)).2 | exact (rr_a (by assumption) (by omega) (by assumption) (by assumption) (by assumption)).2 | exact (rr_b (by assumption) (by omega) (by assumption) (by assumption) (by assumption)).2 | exact (rr_c (by assumption) (by omega) (by assumption) (by assumption) (by assumption)).2 | exact (rr_d (by assumption) (by omega) (by assumption) (by assumption) (by assumption) (by assumption)).2), rfl, h2_5, h3_5, h4_5, h7_5, rfl, rfl, .p .h (.p (.t (.t (.t (.t .h)))) (.p (.t .h) (.p (.t (.t (.t .h))) .nil)))⟩⟩
        · -- !cq.dead False
          have b20 : cq.dead = true := by simpa using b11
          refine s_no rfl rfl rfl rfl (b' := !cq.dead) rfl b11 ?_
          refine s_no rfl rfl rfl rfl (b' := !cq.dead) rfl b11 ?_
          refine s_no rfl rfl rfl rfl (b' := !cq.dead) rfl b11 ?_
          refine s_no rfl rfl rfl rfl (b' := !cq.dead) rfl b11 ?_
          refine s_no rfl rfl rfl rfl (b' := !cq.dead) rfl b11 ?_
          refine s_y (v := .bool false) (y_pickF (b := !cq.dead) (v := .bool false) rfl b11 rfl) rfl ?_
          refine wpL_nil ?_
          refine thenS_n ?_
          refine wpS_cond_f rfl ?_
          refine wpS_seq ?_
          refine wpS_seq ?_
          refine wpS_region ?_
          refine s_y (v := .pointer (some ⟨b_2, 0, none⟩)) (y_fieldAddr (o' := 0) h4_5 Try.underlying23 rfl Try.sizeOf4 (by decide) rfl) rfl ?_
          refine s_y (v := .bool (cq.dead)) (y_load1 rfl Try.isAgg4 (own1 (.t (.t (.t (.t .h)))) rfl)) rfl ?_
          refine s_y (v := .bool (!cq.dead)) (y_not (b := cq.dead) rfl) rfl ?_
          refine wpL_nil ?_
          refine thenS_n ?_
          refine wpS_cond_F (t := !cq.dead) rfl b11 ?_
          refine wpS_skip ?_
          refine thenS_n ?_
          refine wpS_seq ?_
          refine wpS_region ?_
          refine s_y (v := .pointer (some ⟨b_7, 0, none⟩)) (y_fieldAddr (o' := 0) rfl Try.underlying23 rfl Try.sizeOf4 (by decide) rfl) rfl ?_
          refine s_y (v := .bool ((l.getD i default).dead)) (y_load1 rfl Try.isAgg4 (own1 (.t .h) rfl)) rfl ?_
          refine wpL_nil ?_
          refine thenS_n ?_
          refine wpS_cond_F (t := (l.getD i default).dead) rfl b10 ?_
          refine wpS_region ?_
          refine s_y (v := .pointer (some ⟨b_7, 1, none⟩)) (y_fieldAddr (o' := 1) rfl Try.underlying23 rfl Try.sizeOf2 (by decide) rfl) rfl ?_
          refine s_y (v := .int .i64 (((l.getD i default).key).toInt)) (y_load1 rfl Try.isAgg2 (own1 (.t .h) rfl)) rfl ?_
          refine s_y (v := .pointer (some ⟨b_7, 2, none⟩)) (y_fieldAddr (o' := 2) rfl Try.underlying23 rfl Try.sizeOf2 (by decide) rfl) rfl ?_
          refine s_y (v := .int .i64 (((l.getD i default).value).toInt)) (y_load1 rfl Try.isAgg2 (own1 (.t .h) rfl)) rfl ?_
          refine s_y (v := .agg #[.bool false, .int .i64 (((l.getD i default).key).toInt), .int .i64 (((l.getD i default).value).toInt), .int .i64 0]) (y_buildL (m := [(1, .int .i64 (((l.getD i default).key).toInt)), (2, .int .i64 (((l.getD i default).value).toInt))]) (vs := #[.bool false, .int .i64 (((l.getD i default).key).toInt), .int .i64 (((l.getD i default).value).toInt), .int .i64 0]) (evc rfl (evc rfl evn)) (fun w => by kernel_rfl)) rfl ?_
          refine s_e0 ?_
          refine e_store (vs := [.bool false, .int .i64 (((l.getD i default).key).toInt), .int .i64 (((l.getD i default).value).toInt), .int .i64 0]) (l' := [.bool false, .int .i64 (((l.getD i default).key).toInt), .int .i64 (((l.getD i default).value).toInt), .int .i64 0]) h4_5 rfl rfl rfl Try.sizeOf23 (.t (.t (.t (.t .h)))) (Nat.le_of_ble_eq_true rfl) rfl ?_
          refine wpL_nil ?_
          refine thenS_n ?_
          refine wpS_region ?_
          refine s_y (v := .slice b1 os.length d1) (y_move h8_5) rfl ?_
          refine s_y (v := .agg #[.bool (deadR.dead), .int .i64 (deadR.key.toInt), .int .i64 (deadR.value.toInt), .int .i64 (deadR.seq.toInt)]) (y_loadN (vs := [.bool (deadR.dead), .int .i64 (deadR.key.toInt), .int .i64 (deadR.value.toInt), .int .i64 (deadR.seq.toInt)]) rfl Try.isAgg23 Try.sizeOf23 (ownN (.t .h) rfl)) rfl ?_
          refine s_e rfl ?_
          refine e_bsliceL (e := 23) (m := [(0, .agg #[.bool (deadR.dead), .int .i64 (deadR.key.toInt), .int .i64 (deadR.value.toInt), .int .i64 (deadR.seq.toInt)])]) (l := [.bool (deadR.dead), .int .i64 (deadR.key.toInt), .int .i64 (deadR.value.toInt), .int .i64 (deadR.seq.toInt)]) (evc rfl evn) (fun w => by kernel_rfl) ?_
          intro b_21
          refine s_e rfl ?_
          refine e_appendL (enc := recV) (xs := (os : List Rec)) (ns := ([deadR] : List Rec)) (zs := (os ++ [deadR])) (bytes := 32) recV_len recV_one Try.underlying69 (i := Try.t23) rfl rfl rfl rfl rfl (by decide) rfl rfl (by first | rfl | omega) (by first | rfl | omega) (.t (.t (.t (.t .h)))) (fun w hs => celR .h w hs) (by first | rfl | simp) (by (try simp only [List.length_append, List.length_cons, List.length_nil] at *); omega) (by (try simp only [List.length_append, List.length_cons, List.length_nil] at *); omega) ?_
          intro a_22 c_23
          refine s_y (v := .slice a_22 ((os ++ [deadR]).length) c_23) (y_assign rfl) rfl ?_
          refine wpL_nil ?_
          refine blockS_n ?_
          refine thenS_n ?_
          refine wpS_region ?_
          refine s_y (v := .int .i64 (((i : Nat) : Int))) (y_move h9_5) rfl ?_
          refine s_y (v := .int .i64 ((((i + 1) : Nat) : Int))) (y_add (a := ((i : Nat) : Int)) (b := 1) (c := (((i + 1) : Nat) : Int)) rfl rfl (wI (by omega) (by omega) (by omega))) rfl ?_
          refine s_y (v := .int .i64 ((((i + 1) : Nat) : Int))) (y_assign rfl) rfl ?_
          refine wpL_nil ?_
          refine thenS_n ?_
          exact ⟨_, by omega, ⟨(i + 1), (os ++ [deadR]), (cstp (chkB kz l1 l2 l3) l2 l3 cx (l.getD i default)).2, (Rec.mk false ((l.getD i default).key) ((l.getD i default).value) 0), a_22, c_23, rfl, by omega, (by rw [List.length_append, List.length_singleton]; omega), (by first | exact (rr_1 (by assumption) (by omega) (by assumption) (by assumption) (by assumption) (by assumption)).1 | exact (rr_a (by assumption) (by omega) (by assumption) (by assumption) (by assumption)).1 | exact (rr_b (by assumption) (by omega) (by assumption) (by assumption) (by assumption)).1 | exact (rr_c (by assumption) (by omega) (by assumption) (by assumption) (by assumption)).1 | exact (rr_d (by assumption) (by omega) (by assumption) (by assumption) (by assumption) (by assumption)).1), (by first | exact (rr_1 (by assumption) (by omega) (by assumption) (by assumption) (by assumption) (by assumption)).2 | exact (rr_a (by assumption) (by omega) (by assumption) (by assumption) (by assumption)).2 | exact (rr_b (by assumption) (by omega) (by assumption) (by assumption) (by assumption)).2 | exact (rr_c (by assumption) (by omega) (by assumption) (by assumption) (by assumption)).2 | exact (rr_d (by assumption) (by omega) (by assumption) (by assumption) (by assumption) (by assumption)).2), rfl, h2_5, h3_5, h4_5, h7_5, rfl, rfl, .p .h (.p (.t (.t (.t (.t .h)))) (.p (.t .h) (.p (.t (.t (.t .h))) .nil)))⟩⟩
      · -- !((l.getD i default).dead) False
        have b24 : ((l.getD i default).dead) = true := by simpa using b9
        refine s_no rfl rfl rfl rfl (b' := !((l.getD i default).dead)) rfl b9 ?_
        refine s_no rfl rfl rfl rfl (b' := !((l.getD i default).dead)) rfl b9 ?_
        refine s_no rfl rfl rfl rfl (b' := !((l.getD i default).dead)) rfl b9 ?_
        refine s_y (v := .bool false) (y_pickF (b := !((l.getD i default).dead)) (v := .bool false) rfl b9 rfl) rfl ?_
        refine s_y (v := .bool false) (y_move rfl) rfl ?_
        refine s_no rfl rfl rfl rfl rfl rfl ?_
        refine s_no rfl rfl rfl rfl rfl rfl ?_
        refine s_no rfl rfl rfl rfl rfl rfl ?_
        refine s_no rfl rfl rfl rfl rfl rfl ?_
        refine s_no rfl rfl rfl rfl rfl rfl ?_
        refine s_y (v := .bool false) (y_pickF (v := .bool false) rfl rfl rfl) rfl ?_
        refine wpL_nil ?_
        refine thenS_n ?_
        refine wpS_cond_f rfl ?_
        refine wpS_seq ?_
        refine wpS_seq ?_
        refine wpS_region ?_
        refine s_y (v := .pointer (some ⟨b_2, 0, none⟩)) (y_fieldAddr (o' := 0) h4_5 Try.underlying23 rfl Try.sizeOf4 (by decide) rfl) rfl ?_
        refine s_y (v := .bool (cq.dead)) (y_load1 rfl Try.isAgg4 (own1 (.t (.t (.t (.t .h)))) rfl)) rfl ?_
        refine s_y (v := .bool (!cq.dead)) (y_not (b := cq.dead) rfl) rfl ?_
        refine wpL_nil ?_
        refine thenS_n ?_
        refine wpS_cond (t := !cq.dead) rfl (fun b25 => ?_) (fun b25 => ?_)
        · -- !cq.dead true
          have b26 : cq.dead = false := by simpa using b25
          refine wpS_anyL [cel b_2 23 [.bool (cq.dead), .int .i64 (cq.key.toInt), .int .i64 (cq.value.toInt), .int .i64 (cq.seq.toInt)], cel b_1 84 [.int .i64 kz, .slice a1 n1 c1, .slice a2 n2 c2, .slice a3 n3 c3]] [] (by kernel_rfl) ?_
          refine anyS_take (i := 0) rfl (by kernel_rfl) (by kernel_rfl) (by kernel_rfl) (by kernel_rfl) (Yq.of (v := .pointer (some ⟨b_2, 1, none⟩)) (y_fieldAddr (o' := 1) h4_5 Try.underlying23 rfl Try.sizeOf2 (by decide) rfl) rfl) (.p (.t (.t (.t (.t .h)))) (.p (.t (.t (.t (.t .h)))) .nil)) ?_
          refine anyS_take (i := 1) rfl (by kernel_rfl) (by kernel_rfl) (by kernel_rfl) (by kernel_rfl) (Yq.of (v := .int .i64 (cq.key.toInt)) (y_load1 rfl Try.isAgg2 (own1 .h rfl)) rfl) (.p (.t (.t (.t (.t .h)))) (.p (.t (.t (.t (.t .h)))) .nil)) ?_
          refine anyS_take (i := 2) rfl (by kernel_rfl) (by kernel_rfl) (by kernel_rfl) (by kernel_rfl) (Yq.of (v := .agg #[.int .i64 kz, .slice a1 n1 c1, .slice a2 n2 c2, .slice a3 n3 c3]) (y_loadN (vs := [.int .i64 kz, .slice a1 n1 c1, .slice a2 n2 c2, .slice a3 n3 c3]) h3_5 Try.isAgg84 Try.sizeOf84 (ownN (.t .h) rfl)) rfl) (.p (.t (.t (.t (.t .h)))) (.p (.t (.t (.t (.t .h)))) .nil)) ?_
          refine anyS_take (i := 3) rfl (by kernel_rfl) (by kernel_rfl) (by kernel_rfl) (by kernel_rfl) (Yq.of (v := .pointer (some ⟨b_2, 1, none⟩)) (y_fieldAddr (o' := 1) h4_5 Try.underlying23 rfl Try.sizeOf2 (by decide) rfl) rfl) (.p (.t (.t (.t (.t .h)))) (.p (.t (.t (.t (.t .h)))) .nil)) ?_
          refine anyS_take (i := 4) rfl (by kernel_rfl) (by kernel_rfl) (by kernel_rfl) (by kernel_rfl) (Yq.of (v := .int .i64 (cq.key.toInt)) (y_load1 rfl Try.isAgg2 (own1 .h rfl)) rfl) (.p (.t (.t (.t (.t .h)))) (.p (.t (.t (.t (.t .h)))) .nil)) ?_
          refine anyS_take (i := 5) rfl (by kernel_rfl) (by kernel_rfl) (by kernel_rfl) (by kernel_rfl) (Yq.of (v := .pointer (some ⟨b_2, 2, none⟩)) (y_fieldAddr (o' := 2) h4_5 Try.underlying23 rfl Try.sizeOf2 (by decide) rfl) rfl) (.p (.t (.t (.t (.t .h)))) (.p (.t (.t (.t (.t .h)))) .nil)) ?_
          refine anyS_take (i := 6) rfl (by kernel_rfl) (by kernel_rfl) (by kernel_rfl) (by kernel_rfl) (Yq.of (v := .int .i64 (cq.value.toInt)) (y_load1 rfl Try.isAgg2 (own1 .h rfl)) rfl) (.p (.t (.t (.t (.t .h)))) (.p (.t (.t (.t (.t .h)))) .nil)) ?_
          refine anyS_take (i := 7) rfl (by kernel_rfl) (by kernel_rfl) (by kernel_rfl) (by kernel_rfl) (Yq.of (v := .int .i64 (((doneC (chkB kz l1 l2 l3) l3 cq.value cq.key)).toInt)) (y_call (args := #[.agg #[.int .i64 kz, .slice a1 n1 c1, .slice a2 n2 c2, .slice a3 n3 c3], .int .i64 (cq.key.toInt), .int .i64 (cq.value.toInt)]) (v := .int .i64 (((doneC (chkB kz l1 l2 l3) l3 cq.value cq.key)).toInt)) Try.call180 (ev3 rfl rfl rfl) (fun w hs => rfinish_c kz a1 a2 a3 n1 c1 n2 c2 n3 c3 l1 l2 l3 cq.key cq.value w hn1 ((oldR hr1) w hs) (by omega) hn2 ((oldR hr2) w hs) (by omega) hn3 ((oldR hr3) w hs) (by omega))) rfl) (.p (.t (.t (.t (.t .h)))) (.p (.t (.t (.t (.t .h)))) .nil)) ?_
          refine anyS_take (i := 8) rfl (by kernel_rfl) (by kernel_rfl) (by kernel_rfl) (by kernel_rfl) (Yq.of (v := .agg #[.bool false, .int .i64 (cq.key.toInt), .int .i64 (((doneC (chkB kz l1 l2 l3) l3 cq.value cq.key)).toInt), .int .i64 0]) (y_buildL (m := [(1, .int .i64 (cq.key.toInt)), (2, .int .i64 (((doneC (chkB kz l1 l2 l3) l3 cq.value cq.key)).toInt))]) (vs := #[.bool false, .int .i64 (cq.key.toInt), .int .i64 (((doneC (chkB kz l1 l2 l3) l3 cq.value cq.key)).toInt), .int .i64 0]) (evc rfl (evc rfl evn)) (fun w => by kernel_rfl)) rfl) (.p (.t (.t (.t (.t .h)))) (.p (.t (.t (.t (.t .h)))) .nil)) ?_
          refine anyS_all (rs := [9]) (by kernel_rfl) (by simp) ?_
          intro i hi; obtain rfl := List.mem_singleton.1 hi; clear hi
          refine opS_0 rfl rfl ?_
          refine e_store (vs := [.bool false, .int .i64 (cq.key.toInt), .int .i64 (((doneC (chkB kz l1 l2 l3) l3 cq.value cq.key)).toInt), .int .i64 0]) (l' := [.bool false, .int .i64 (cq.key.toInt), .int .i64 (((doneC (chkB kz l1 l2 l3) l3 cq.value cq.key)).toInt), .int .i64 0]) rfl rfl rfl rfl Try.sizeOf23 .h (Nat.le_of_ble_eq_true rfl) rfl ?_
          refine ⟨.inr (.p (.t (.t (.t (.t .h)))) (.p (.t (.t (.t (.t .h)))) .nil)), ?_⟩
          refine anyS_done (by kernel_rfl) ?_
          refine thenS_n ?_
          refine wpS_seq ?_
          refine wpS_region ?_
          refine s_y (v := .pointer (some ⟨b_7, 0, none⟩)) (y_fieldAddr (o' := 0) rfl Try.underlying23 rfl Try.sizeOf4 (by decide) rfl) rfl ?_
          refine s_y (v := .bool ((l.getD i default).dead)) (y_load1 rfl Try.isAgg4 (own1 (.t .h) rfl)) rfl ?_
          refine wpL_nil ?_
          refine thenS_n ?_
          refine wpS_cond_T (t := (l.getD i default).dead) rfl b24 ?_
          refine wpS_region ?_
          refine s_y (v := .agg #[.bool (deadR.dead), .int .i64 (deadR.key.toInt), .int .i64 (deadR.value.toInt), .int .i64 (deadR.seq.toInt)]) (y_call (args := #[]) (v := .agg #[.bool (deadR.dead), .int .i64 (deadR.key.toInt), .int .i64 (deadR.value.toInt), .int .i64 (deadR.seq.toInt)]) Try.call178 ev0 (fun w hs => refdead_c w)) rfl ?_
          refine s_e0 ?_
          refine e_store (vs := [.bool (deadR.dead), .int .i64 (deadR.key.toInt), .int .i64 (deadR.value.toInt), .int .i64 (deadR.seq.toInt)]) (l' := [.bool (deadR.dead), .int .i64 (deadR.key.toInt), .int .i64 (deadR.value.toInt), .int .i64 (deadR.seq.toInt)]) h4_5 rfl rfl rfl Try.sizeOf23 (.t (.t (.t (.t .h)))) (Nat.le_of_ble_eq_true rfl) rfl ?_
          refine wpL_nil ?_
          refine thenS_n ?_
          refine wpS_region ?_
          refine s_y (v := .slice b1 os.length d1) (y_move h8_5) rfl ?_
          refine s_y (v := .agg #[.bool false, .int .i64 (cq.key.toInt), .int .i64 (((doneC (chkB kz l1 l2 l3) l3 cq.value cq.key)).toInt), .int .i64 0]) (y_loadN (vs := [.bool false, .int .i64 (cq.key.toInt), .int .i64 (((doneC (chkB kz l1 l2 l3) l3 cq.value cq.key)).toInt), .int .i64 0]) rfl Try.isAgg23 Try.sizeOf23 (ownN (.t .h) rfl)) rfl ?_
          refine s_e rfl ?_
          refine e_bsliceL (e := 23) (m := [(0, .agg #[.bool false, .int .i64 (cq.key.toInt), .int .i64 (((doneC (chkB kz l1 l2 l3) l3 cq.value cq.key)).toInt), .int .i64 0])]) (l := [.bool false, .int .i64 (cq.key.toInt), .int .i64 (((doneC (chkB kz l1 l2 l3) l3 cq.value cq.key)).toInt), .int .i64 0]) (evc rfl evn) (fun w => by kernel_rfl) ?_
          intro b_27
          refine s_e rfl ?_
          refine e_appendL (enc := recV) (xs := (os : List Rec)) (ns := ([(Rec.mk false cq.key (doneC (chkB kz l1 l2 l3) l3 cq.value cq.key) 0)] : List Rec)) (zs := (os ++ [(Rec.mk false cq.key (doneC (chkB kz l1 l2 l3) l3 cq.value cq.key) 0)])) (bytes := 32) recV_len recV_one Try.underlying69 (i := Try.t23) rfl rfl rfl rfl rfl (by decide) rfl rfl (by first | rfl | omega) (by first | rfl | omega) (.t (.t (.t (.t .h)))) (fun w hs => celR .h w hs) (by first | rfl | simp) (by (try simp only [List.length_append, List.length_cons, List.length_nil] at *); omega) (by (try simp only [List.length_append, List.length_cons, List.length_nil] at *); omega) ?_
          intro a_28 c_29
          refine s_y (v := .slice a_28 ((os ++ [(Rec.mk false cq.key (doneC (chkB kz l1 l2 l3) l3 cq.value cq.key) 0)]).length) c_29) (y_assign rfl) rfl ?_
          refine wpL_nil ?_
          refine blockS_n ?_
          refine thenS_n ?_
          refine wpS_region ?_
          refine s_y (v := .int .i64 (((i : Nat) : Int))) (y_move h9_5) rfl ?_
          refine s_y (v := .int .i64 ((((i + 1) : Nat) : Int))) (y_add (a := ((i : Nat) : Int)) (b := 1) (c := (((i + 1) : Nat) : Int)) rfl rfl (wI (by omega) (by omega) (by omega))) rfl ?_
          refine s_y (v := .int .i64 ((((i + 1) : Nat) : Int))) (y_assign rfl) rfl ?_
          refine wpL_nil ?_
          refine thenS_n ?_
          exact ⟨_, by omega, ⟨(i + 1), (os ++ [(Rec.mk false cq.key (doneC (chkB kz l1 l2 l3) l3 cq.value cq.key) 0)]), (cstp (chkB kz l1 l2 l3) l2 l3 cx (l.getD i default)).2, deadR, a_28, c_29, rfl, by omega, (by rw [List.length_append, List.length_singleton]; omega), (by first | exact (rr_1 (by assumption) (by omega) (by assumption) (by assumption) (by assumption) (by assumption)).1 | exact (rr_a (by assumption) (by omega) (by assumption) (by assumption) (by assumption)).1 | exact (rr_b (by assumption) (by omega) (by assumption) (by assumption) (by assumption)).1 | exact (rr_c (by assumption) (by omega) (by assumption) (by assumption) (by assumption)).1 | exact (rr_d (by assumption) (by omega) (by assumption) (by assumption) (by assumption) (by assumption)).1), (by first | exact (rr_1 (by assumption) (by omega) (by assumption) (by assumption) (by assumption) (by assumption)).2 | exact (rr_a (by assumption) (by omega) (by assumption) (by assumption) (by assumption)).2 | exact (rr_b (by assumption) (by omega) (by assumption) (by assumption) (by assumption)).2 | exact (rr_c (by assumption) (by omega) (by assumption) (by assumption) (by assumption)).2 | exact (rr_d (by assumption) (by omega) (by assumption) (by assumption) (by assumption) (by assumption)).2), rfl, h2_5, h3_5, h4_5, h7_5, rfl, rfl, .p .h (.p (.t (.t (.t (.t .h)))) (.p (.t .h) (.p (.t (.t (.t .h))) .nil)))⟩⟩
        · -- !cq.dead false
          have b30 : cq.dead = true := by simpa using b25
          refine wpS_skip ?_
          refine thenS_n ?_
          refine wpS_seq ?_
          refine wpS_region ?_
          refine s_y (v := .pointer (some ⟨b_7, 0, none⟩)) (y_fieldAddr (o' := 0) rfl Try.underlying23 rfl Try.sizeOf4 (by decide) rfl) rfl ?_
          refine s_y (v := .bool ((l.getD i default).dead)) (y_load1 rfl Try.isAgg4 (own1 (.t .h) rfl)) rfl ?_
          refine wpL_nil ?_
          refine thenS_n ?_
          refine wpS_cond_T (t := (l.getD i default).dead) rfl b24 ?_
          refine wpS_region ?_
          refine s_y (v := .agg #[.bool (deadR.dead), .int .i64 (deadR.key.toInt), .int .i64 (deadR.value.toInt), .int .i64 (deadR.seq.toInt)]) (y_call (args := #[]) (v := .agg #[.bool (deadR.dead), .int .i64 (deadR.key.toInt), .int .i64 (deadR.value.toInt), .int .i64 (deadR.seq.toInt)]) Try.call178 ev0 (fun w hs => refdead_c w)) rfl ?_
          refine s_e0 ?_
          refine e_store (vs := [.bool (deadR.dead), .int .i64 (deadR.key.toInt), .int .i64 (deadR.value.toInt), .int .i64 (deadR.seq.toInt)]) (l' := [.bool (deadR.dead), .int .i64 (deadR.key.toInt), .int .i64 (deadR.value.toInt), .int .i64 (deadR.seq.toInt)]) h4_5 rfl rfl rfl Try.sizeOf23 (.t (.t (.t (.t .h)))) (Nat.le_of_ble_eq_true rfl) rfl ?_
          refine wpL_nil ?_
          refine thenS_n ?_
          refine wpS_region ?_
          refine s_y (v := .slice b1 os.length d1) (y_move h8_5) rfl ?_
          refine s_y (v := .agg #[.bool (deadR.dead), .int .i64 (deadR.key.toInt), .int .i64 (deadR.value.toInt), .int .i64 (deadR.seq.toInt)]) (y_loadN (vs := [.bool (deadR.dead), .int .i64 (deadR.key.toInt), .int .i64 (deadR.value.toInt), .int .i64 (deadR.seq.toInt)]) rfl Try.isAgg23 Try.sizeOf23 (ownN (.t .h) rfl)) rfl ?_
          refine s_e rfl ?_
          refine e_bsliceL (e := 23) (m := [(0, .agg #[.bool (deadR.dead), .int .i64 (deadR.key.toInt), .int .i64 (deadR.value.toInt), .int .i64 (deadR.seq.toInt)])]) (l := [.bool (deadR.dead), .int .i64 (deadR.key.toInt), .int .i64 (deadR.value.toInt), .int .i64 (deadR.seq.toInt)]) (evc rfl evn) (fun w => by kernel_rfl) ?_
          intro b_31
          refine s_e rfl ?_
          refine e_appendL (enc := recV) (xs := (os : List Rec)) (ns := ([deadR] : List Rec)) (zs := (os ++ [deadR])) (bytes := 32) recV_len recV_one Try.underlying69 (i := Try.t23) rfl rfl rfl rfl rfl (by decide) rfl rfl (by first | rfl | omega) (by first | rfl | omega) (.t (.t (.t (.t .h)))) (fun w hs => celR .h w hs) (by first | rfl | simp) (by (try simp only [List.length_append, List.length_cons, List.length_nil] at *); omega) (by (try simp only [List.length_append, List.length_cons, List.length_nil] at *); omega) ?_
          intro a_32 c_33
          refine s_y (v := .slice a_32 ((os ++ [deadR]).length) c_33) (y_assign rfl) rfl ?_
          refine wpL_nil ?_
          refine blockS_n ?_
          refine thenS_n ?_
          refine wpS_region ?_
          refine s_y (v := .int .i64 (((i : Nat) : Int))) (y_move h9_5) rfl ?_
          refine s_y (v := .int .i64 ((((i + 1) : Nat) : Int))) (y_add (a := ((i : Nat) : Int)) (b := 1) (c := (((i + 1) : Nat) : Int)) rfl rfl (wI (by omega) (by omega) (by omega))) rfl ?_
          refine s_y (v := .int .i64 ((((i + 1) : Nat) : Int))) (y_assign rfl) rfl ?_
          refine wpL_nil ?_
          refine thenS_n ?_
          exact ⟨_, by omega, ⟨(i + 1), (os ++ [deadR]), (cstp (chkB kz l1 l2 l3) l2 l3 cx (l.getD i default)).2, deadR, a_32, c_33, rfl, by omega, (by rw [List.length_append, List.length_singleton]; omega), (by first | exact (rr_1 (by assumption) (by omega) (by assumption) (by assumption) (by assumption) (by assumption)).1 | exact (rr_a (by assumption) (by omega) (by assumption) (by assumption) (by assumption)).1 | exact (rr_b (by assumption) (by omega) (by assumption) (by assumption) (by assumption)).1 | exact (rr_c (by assumption) (by omega) (by assumption) (by assumption) (by assumption)).1 | exact (rr_d (by assumption) (by omega) (by assumption) (by assumption) (by assumption) (by assumption)).1), (by first | exact (rr_1 (by assumption) (by omega) (by assumption) (by assumption) (by assumption) (by assumption)).2 | exact (rr_a (by assumption) (by omega) (by assumption) (by assumption) (by assumption)).2 | exact (rr_b (by assumption) (by omega) (by assumption) (by assumption) (by assumption)).2 | exact (rr_c (by assumption) (by omega) (by assumption) (by assumption) (by assumption)).2 | exact (rr_d (by assumption) (by omega) (by assumption) (by assumption) (by assumption) (by assumption)).2), rfl, h2_5, h3_5, h4_5, h7_5, rfl, rfl, .p .h (.p (.t (.t (.t (.t .h)))) (.p (.t .h) (.p (.t (.t (.t .h))) .nil)))⟩⟩
    · -- decide (i < gn) false
      have p6 := of_decide_eq_false b6
      refine wpS_exit ?_
      refine thenS_x ?_
      refine thenS_x ?_
      refine blockS_h ?_
      refine thenS_n ?_
      refine wpS_seq ?_
      refine wpS_seq ?_
      refine wpS_region ?_
      refine s_y (v := .pointer (some ⟨b_2, 0, none⟩)) (y_fieldAddr (o' := 0) h4_5 Try.underlying23 rfl Try.sizeOf4 (by decide) rfl) rfl ?_
      refine s_y (v := .bool (cq.dead)) (y_load1 rfl Try.isAgg4 (own1 (.t (.t .h)) rfl)) rfl ?_
      refine wpL_nil ?_
      refine thenS_n ?_
      refine wpS_cond (t := cq.dead) rfl (fun b34 => ?_) (fun b34 => ?_)
      · -- cq.dead true
        refine wpS_seq ?_
        refine wpS_region ?_
        refine s_y (v := .slice b1 os.length d1) (y_move h8_5) rfl ?_
        refine s_y (v := .agg #[.bool (deadR.dead), .int .i64 (deadR.key.toInt), .int .i64 (deadR.value.toInt), .int .i64 (deadR.seq.toInt)]) (y_call (args := #[]) (v := .agg #[.bool (deadR.dead), .int .i64 (deadR.key.toInt), .int .i64 (deadR.value.toInt), .int .i64 (deadR.seq.toInt)]) Try.call178 ev0 (fun w hs => refdead_c w)) rfl ?_
        refine s_y (v := .slice b1 os.length d1) (y_assign rfl) rfl ?_
        refine s_e0 ?_
        refine e_store (vs := [.bool (deadR.dead), .int .i64 (deadR.key.toInt), .int .i64 (deadR.value.toInt), .int .i64 (deadR.seq.toInt)]) (l' := [.bool (deadR.dead), .int .i64 (deadR.key.toInt), .int .i64 (deadR.value.toInt), .int .i64 (deadR.seq.toInt)]) h7_5 rfl rfl rfl Try.sizeOf23 (.t .h) (Nat.le_of_ble_eq_true rfl) rfl ?_
        refine wpL_nil ?_
        refine thenS_n ?_
        refine wpS_ret ?_
        refine thenS_r ?_
        refine fin2 (M := [cel b_3 23 [.bool (deadR.dead), .int .i64 (deadR.key.toInt), .int .i64 (deadR.value.toInt), .int .i64 (deadR.seq.toInt)], osl b1 d1 os.length 4 23 (os.flatMap recV)]) (.inr rfl) (.p .h (.p .h .nil)) Try.results92 (rvT (v := .slice b1 os.length d1) rfl) (rvC (vs := [.bool (deadR.dead), .int .i64 (deadR.key.toInt), .int .i64 (deadR.value.toInt), .int .i64 (deadR.seq.toInt)]) h7_5 Try.isAgg23 Try.sizeOf23 (fun w hs => ownN .h rfl w hs)) ?_
        have e0 := by have h0 := (by assumption : run15 _ _ _ _ (l.take i) = (os, cx)); rw [List.take_of_length_le (by omega)] at h0; exact h0
        have e1 : stepO (chkB kz l1 l2 l3) l2 l3 cr l = os := by unfold stepO; rw [if_pos hok, e0]
        have e2 : stepC (chkB kz l1 l2 l3) l2 l3 cr l = deadR := by unfold stepC; rw [if_pos hok, e0]; refine (by assumption : normC cx = normC cq).trans ?_; unfold normC; first | rw [if_pos (show cq.dead = false by assumption)] | (rw [if_neg (show ¬ cq.dead = false by rw [(by assumption : cq.dead = true)]; decide)]; done) | (rw [if_neg (show ¬ cq.dead = false by rw [(by assumption : cq.dead = true)]; decide)]; rfl)
        exact fun w' hs => ⟨(b1, d1), by first | (rw [e1, e2]; done) | (rw [e1, e2]; rfl), by rw [e1]; exact hs.ent (.p (.t .h) .nil), trivial⟩
      · -- cq.dead false
        refine wpS_skip ?_
        refine thenS_n ?_
        refine wpS_seq ?_
        refine wpS_anyL [cel b_2 23 [.bool (cq.dead), .int .i64 (cq.key.toInt), .int .i64 (cq.value.toInt), .int .i64 (cq.seq.toInt)]] [] (by kernel_rfl) ?_
        refine anyS_take (i := 0) rfl (by kernel_rfl) (by kernel_rfl) (by kernel_rfl) (by kernel_rfl) (Yq.of (v := .slice b1 os.length d1) (y_move h8_5) rfl) (.p (.t (.t .h)) .nil) ?_
        refine anyS_take (i := 1) rfl (by kernel_rfl) (by kernel_rfl) (by kernel_rfl) (by kernel_rfl) (Yq.of (v := .pointer (some ⟨b_2, 1, none⟩)) (y_fieldAddr (o' := 1) h4_5 Try.underlying23 rfl Try.sizeOf2 (by decide) rfl) rfl) (.p (.t (.t .h)) .nil) ?_
        refine anyS_take (i := 2) rfl (by kernel_rfl) (by kernel_rfl) (by kernel_rfl) (by kernel_rfl) (Yq.of (v := .int .i64 (cq.key.toInt)) (y_load1 rfl Try.isAgg2 (own1 .h rfl)) rfl) (.p (.t (.t .h)) .nil) ?_
        refine anyS_take (i := 3) rfl (by kernel_rfl) (by kernel_rfl) (by kernel_rfl) (by kernel_rfl) (Yq.of (v := .pointer (some ⟨b_2, 2, none⟩)) (y_fieldAddr (o' := 2) h4_5 Try.underlying23 rfl Try.sizeOf2 (by decide) rfl) rfl) (.p (.t (.t .h)) .nil) ?_
        refine anyS_take (i := 4) rfl (by kernel_rfl) (by kernel_rfl) (by kernel_rfl) (by kernel_rfl) (Yq.of (v := .int .i64 (cq.value.toInt)) (y_load1 rfl Try.isAgg2 (own1 .h rfl)) rfl) (.p (.t (.t .h)) .nil) ?_
        refine anyS_take (i := 5) rfl (by kernel_rfl) (by kernel_rfl) (by kernel_rfl) (by kernel_rfl) (Yq.of (v := .agg #[.bool false, .int .i64 (cq.key.toInt), .int .i64 (cq.value.toInt), .int .i64 0]) (y_buildL (m := [(1, .int .i64 (cq.key.toInt)), (2, .int .i64 (cq.value.toInt))]) (vs := #[.bool false, .int .i64 (cq.key.toInt), .int .i64 (cq.value.toInt), .int .i64 0]) (evc rfl (evc rfl evn)) (fun w => by kernel_rfl)) rfl) (.p (.t (.t .h)) .nil) ?_
        refine anyS_take (i := 6) rfl (by kernel_rfl) (by kernel_rfl) (by kernel_rfl) (by kernel_rfl) (Yq.of (v := .slice b1 os.length d1) (y_assign rfl) rfl) (.p (.t (.t .h)) .nil) ?_
        refine anyS_all (rs := [7]) (by kernel_rfl) (by simp) ?_
        intro i hi; obtain rfl := List.mem_singleton.1 hi; clear hi
        refine opS_0 rfl rfl ?_
        refine e_store (vs := [.bool false, .int .i64 (cq.key.toInt), .int .i64 (cq.value.toInt), .int .i64 0]) (l' := [.bool false, .int .i64 (cq.key.toInt), .int .i64 (cq.value.toInt), .int .i64 0]) h7_5 rfl rfl rfl Try.sizeOf23 (.t .h) (Nat.le_of_ble_eq_true rfl) rfl ?_
        refine ⟨.inr (.p (.t (.t .h)) .nil), ?_⟩
        refine anyS_done (by kernel_rfl) ?_
        refine thenS_n ?_
        refine wpS_ret ?_
        refine fin2 (M := [cel b_3 23 [.bool false, .int .i64 (cq.key.toInt), .int .i64 (cq.value.toInt), .int .i64 0], osl b1 d1 os.length 4 23 (os.flatMap recV)]) (.inr rfl) (.p .h (.p .h .nil)) Try.results92 (rvT (v := .slice b1 os.length d1) rfl) (rvC (vs := [.bool false, .int .i64 (cq.key.toInt), .int .i64 (cq.value.toInt), .int .i64 0]) h7_5 Try.isAgg23 Try.sizeOf23 (fun w hs => ownN .h rfl w hs)) ?_
        have e0 := by have h0 := (by assumption : run15 _ _ _ _ (l.take i) = (os, cx)); rw [List.take_of_length_le (by omega)] at h0; exact h0
        have e1 : stepO (chkB kz l1 l2 l3) l2 l3 cr l = os := by unfold stepO; rw [if_pos hok, e0]
        have e2 : stepC (chkB kz l1 l2 l3) l2 l3 cr l = (Rec.mk false cq.key cq.value 0) := by unfold stepC; rw [if_pos hok, e0]; refine (by assumption : normC cx = normC cq).trans ?_; unfold normC; first | rw [if_pos (show cq.dead = false by assumption)] | (rw [if_neg (show ¬ cq.dead = false by rw [(by assumption : cq.dead = true)]; decide)]; done) | (rw [if_neg (show ¬ cq.dead = false by rw [(by assumption : cq.dead = true)]; decide)]; rfl)
        exact fun w' hs => ⟨(b1, d1), by first | (rw [e1, e2]; done) | (rw [e1, e2]; rfl), by rw [e1]; exact hs.ent (.p (.t .h) .nil), trivial⟩

end Go.Proofs.Ytldkjjnjdjfipaa
