/- ChainSums, walked. -/
import Derived.Test.YtldkjjnjdjfipaaP15f
import Derived.Test.YtldkjjnjdjfipaaWChn1
import Derived.Test.YtldkjjnjdjfipaaP11c
namespace Go.Proofs.Ytldkjjnjdjfipaa
open Go Go.RowKit
set_option linter.unusedVariables false
set_option linter.unusedSimpArgs false
set_option maxRecDepth 10000
set_option maxHeartbeats 1000000

theorem sums_law (a : Option Addr) (na ca : Nat) (l : List Rec) (w : World) (hna : l.length = na) (hra : Rds w a (l.flatMap recV)) : Pure Try.prog 26 #[.slice a na ca] w (.bool true) := by
  refine calls_S (n := 113) (σ0 := (upd fr0 0 (.slice a na ca))) (D := []) (A := []) Try.func26 rfl Try.ntmps26 rfl (a1_fr _) (SH.start w) ?_
  have hil : (isort true l).length = na := by rw [isort_eq, msort_len]; exact hna
  have hil2 : (isort true l ++ [Rec.mk true 0 0 0]).length = na + 1 := by rw [List.length_append, hil]; rfl
  have hsx : (sumX l).length = na + 1 := by unfold sumX; rw [stepO_len sum_ok]; exact hil2
  refine wpS_seq ?_
  refine wpS_region ?_
  refine s_y (v := .bool false) (y_assign rfl) rfl ?_
  refine wpL_nil ?_
  refine thenS_n ?_
  refine wpS_seq ?_
  refine wpS_seq ?_
  refine wpS_region ?_
  refine s_y (v := .slice a na ca) (y_move rfl) rfl ?_
  refine s_y (v := .int .i64 (((na : Nat) : Int))) (y_len (ty' := 0) (at_ := #[]) rfl Try.underlying69) rfl ?_
  refine s_y (v := .bool (decide ((60 : Nat) < na))) (y_gtr (a := ((na : Nat) : Int)) (b := 60) (c := decide ((60 : Nat) < na)) rfl rfl (decide_eq_decide.2 (by omega))) rfl ?_
  refine wpL_nil ?_
  refine thenS_n ?_
  refine wpS_cond (t := decide ((60 : Nat) < na)) rfl (fun b1 => ?_) (fun b1 => ?_)
  · -- decide ((60 : Nat) < na) true
    have p1 := of_decide_eq_true b1
    refine wpS_seq ?_
    refine wpS_region ?_
    refine s_y (v := .bool true) (y_call (args := #[]) (v := .bool true) Try.call90 ev0 (fun w hs => awake15_c w)) rfl ?_
    refine s_y (v := .bool true) (y_assign rfl) rfl ?_
    refine wpL_nil ?_
    refine thenS_n ?_
    refine wpS_ret ?_
    refine thenS_r ?_
    refine fin1 (v := .bool true) (.inr rfl) (.nil) Try.results26 rfl ?_
    exact fun w' hs => ⟨rfl, hs⟩
  · -- decide ((60 : Nat) < na) false
    have p1 := of_decide_eq_false b1
    refine wpS_skip ?_
    refine thenS_n ?_
    refine wpS_seq ?_
    refine wpS_region ?_
    refine s_e rfl ?_
    refine e_makeMap ?_
    intro mp_2
    refine s_y (v := .map (some mp_2)) (y_assign rfl) rfl ?_
    refine wpL_nil ?_
    refine thenS_n ?_
    refine wpS_seq ?_
    refine wpS_seq ?_
    refine wpS_region ?_
    refine s_y (v := .int .i64 0) (y_assign rfl) rfl ?_
    refine wpL_nil ?_
    refine thenS_n ?_
    refine wpS_block ?_
    refine wpS_loop (fun mez ds σ L => ∃ i : Nat, ∃ T : KV, mez = na - i ∧ (i ≤ na) ∧ (TI T (l.take i)) ∧ ds = [] ∧ σ 0 = .slice a na ca ∧ σ 3 = .map (some mp_2) ∧ σ 4 = .int .i64 (((i : Nat) : Int)) ∧ Ent L [mpu mp_2 T]) (m0 := na - 0) ⟨0, [], rfl, by omega, tI_0, rfl, rfl, rfl, rfl, .p .h .nil⟩ ?_
    rintro mez ds σ L ⟨i, T, hm_3, hf0_3, hf1_3, rfl, h0_3, h3_3, h4_3, hE_3⟩
    refine wpS_ent hE_3 ?_; clear hE_3
    refine wpS_seq ?_
    refine wpS_seq ?_
    refine wpS_region ?_
    refine s_y (v := .int .i64 (((i : Nat) : Int))) (y_move h4_3) rfl ?_
    refine s_y (v := .slice a na ca) (y_move h0_3) rfl ?_
    refine s_y (v := .int .i64 (((na : Nat) : Int))) (y_len (ty' := 0) (at_ := #[]) rfl Try.underlying69) rfl ?_
    refine s_y (v := .bool (decide (i < na))) (y_lss (a := ((i : Nat) : Int)) (b := ((na : Nat) : Int)) (c := decide (i < na)) rfl rfl (decide_eq_decide.2 (by omega))) rfl ?_
    refine wpL_nil ?_
    refine thenS_n ?_
    refine wpS_cond (t := decide (i < na)) rfl (fun b4 => ?_) (fun b4 => ?_)
    · -- decide (i < na) true
      have p4 := of_decide_eq_true b4
      refine wpS_skip ?_
      refine thenS_n ?_
      refine wpS_seq ?_
      refine wpS_block ?_
      refine wpS_seq ?_
      refine wpS_region ?_
      refine s_y (v := .slice a na ca) (y_move h0_3) rfl ?_
      refine s_y (v := .int .i64 (((i : Nat) : Int))) (y_move h4_3) rfl ?_
      refine s_y (v := .pointer (some ⟨aB a, aO a + i * 4, none⟩)) (y_idx (o := i * 4) rfl rfl Try.underlying69 Try.sizeOf23 (oldR hra) ((fl_len recV_len _).trans (by first | omega | (simp only [List.length_set, List.length_take, List.length_drop]; done) | (simp only [List.length_set, List.length_take, List.length_drop]; omega))) (by decide) (by omega) (by omega) (by omega)) rfl ?_
      refine s_y (v := .pointer (some ⟨aB a, aO a + i * 4, none⟩)) (y_fieldAddr (o' := aO a + i * 4) rfl Try.underlying23 rfl Try.sizeOf4 (by decide) rfl) rfl ?_
      refine s_y (v := .bool ((l.getD i default).dead)) (y_load1 (v := .bool ((l.getD i default).dead)) rfl Try.isAgg4 (rd1 (k := i * 4) (oldR hra) (fl_get0 recV_len l i (by first | omega | (simp only [List.length_set, List.length_take, List.length_drop]; done) | (simp only [List.length_set, List.length_take, List.length_drop]; omega)) rfl))) rfl ?_
      refine s_y (v := .bool (!((l.getD i default).dead))) (y_not (b := (l.getD i default).dead) rfl) rfl ?_
      refine wpL_nil ?_
      refine thenS_n ?_
      refine wpS_cond (t := !((l.getD i default).dead)) rfl (fun b5 => ?_) (fun b5 => ?_)
      · -- !((l.getD i default).dead) true
        have b6 : ((l.getD i default).dead) = false := by simpa using b5
        refine wpS_anyL [mpu mp_2 T] [19] (by kernel_rfl) ?_
        refine anyS_take (i := 0) rfl (by kernel_rfl) (by kernel_rfl) (by kernel_rfl) (by kernel_rfl) (Yq.of (v := .map (some mp_2)) (y_move h3_3) rfl) (.p .h .nil) ?_
        refine anyS_take (i := 1) rfl (by kernel_rfl) (by kernel_rfl) (by kernel_rfl) (by kernel_rfl) (Yq.of (v := .slice a na ca) (y_move h0_3) rfl) (.p .h .nil) ?_
        refine anyS_take (i := 2) rfl (by kernel_rfl) (by kernel_rfl) (by kernel_rfl) (by kernel_rfl) (Yq.of (v := .int .i64 (((i : Nat) : Int))) (y_move h4_3) rfl) (.p .h .nil) ?_
        refine anyS_take (i := 3) rfl (by kernel_rfl) (by kernel_rfl) (by kernel_rfl) (by kernel_rfl) (Yq.of (v := .pointer (some ⟨aB a, aO a + i * 4, none⟩)) (y_idx (o := i * 4) rfl rfl Try.underlying69 Try.sizeOf23 (oldR hra) ((fl_len recV_len _).trans (by first | omega | (simp only [List.length_set, List.length_take, List.length_drop]; done) | (simp only [List.length_set, List.length_take, List.length_drop]; omega))) (by decide) (by omega) (by omega) (by omega)) rfl) (.p .h .nil) ?_
        refine anyS_take (i := 4) rfl (by kernel_rfl) (by kernel_rfl) (by kernel_rfl) (by kernel_rfl) (Yq.of (v := .pointer (some ⟨aB a, aO a + i * 4 + 1, none⟩)) (y_fieldAddr (o' := aO a + i * 4 + 1) rfl Try.underlying23 rfl Try.sizeOf2 (by decide) rfl) rfl) (.p .h .nil) ?_
        refine anyS_take (i := 5) rfl (by kernel_rfl) (by kernel_rfl) (by kernel_rfl) (by kernel_rfl) (Yq.of (v := .int .i64 (((l.getD i default).key).toInt)) (y_load1 (v := .int .i64 (((l.getD i default).key).toInt)) rfl Try.isAgg2 (rd1 (k := i * 4 + 1) (oldR hra) (fl_get1 (f := 1) recV_len l i (by first | omega | (simp only [List.length_set, List.length_take, List.length_drop]; done) | (simp only [List.length_set, List.length_take, List.length_drop]; omega)) rfl))) rfl) (.p .h .nil) ?_
        refine anyS_take (i := 6) rfl (by kernel_rfl) (by kernel_rfl) (by kernel_rfl) (by kernel_rfl) (Yq.of (v := .map (some mp_2)) (y_move h3_3) rfl) (.p .h .nil) ?_
        refine anyS_take (i := 7) rfl (by kernel_rfl) (by kernel_rfl) (by kernel_rfl) (by kernel_rfl) (Yq.of (v := .slice a na ca) (y_move h0_3) rfl) (.p .h .nil) ?_
        refine anyS_take (i := 8) rfl (by kernel_rfl) (by kernel_rfl) (by kernel_rfl) (by kernel_rfl) (Yq.of (v := .int .i64 (((i : Nat) : Int))) (y_move h4_3) rfl) (.p .h .nil) ?_
        refine anyS_take (i := 9) rfl (by kernel_rfl) (by kernel_rfl) (by kernel_rfl) (by kernel_rfl) (Yq.of (v := .pointer (some ⟨aB a, aO a + i * 4, none⟩)) (y_idx (o := i * 4) rfl rfl Try.underlying69 Try.sizeOf23 (oldR hra) ((fl_len recV_len _).trans (by first | omega | (simp only [List.length_set, List.length_take, List.length_drop]; done) | (simp only [List.length_set, List.length_take, List.length_drop]; omega))) (by decide) (by omega) (by omega) (by omega)) rfl) (.p .h .nil) ?_
        refine anyS_take (i := 10) rfl (by kernel_rfl) (by kernel_rfl) (by kernel_rfl) (by kernel_rfl) (Yq.of (v := .pointer (some ⟨aB a, aO a + i * 4 + 1, none⟩)) (y_fieldAddr (o' := aO a + i * 4 + 1) rfl Try.underlying23 rfl Try.sizeOf2 (by decide) rfl) rfl) (.p .h .nil) ?_
        refine anyS_take (i := 11) rfl (by kernel_rfl) (by kernel_rfl) (by kernel_rfl) (by kernel_rfl) (Yq.of (v := .int .i64 (((l.getD i default).key).toInt)) (y_load1 (v := .int .i64 (((l.getD i default).key).toInt)) rfl Try.isAgg2 (rd1 (k := i * 4 + 1) (oldR hra) (fl_get1 (f := 1) recV_len l i (by first | omega | (simp only [List.length_set, List.length_take, List.length_drop]; done) | (simp only [List.length_set, List.length_take, List.length_drop]; omega)) rfl))) rfl) (.p .h .nil) ?_
        refine anyS_take (i := 12) rfl (by kernel_rfl) (by kernel_rfl) (by kernel_rfl) (by kernel_rfl) (Yq.of (v := .int .i64 ((((lkM T ((l.getD i default).key)).getD 0)).toInt)) (y_lookup (k := (l.getD i default).key) (v := ((lkM T ((l.getD i default).key)).getD 0)) Try.underlying105 Try.underlying2 Try.zeroValue2 rfl rfl .h rfl) rfl) (.p .h .nil) ?_
        refine anyS_take (i := 13) rfl (by kernel_rfl) (by kernel_rfl) (by kernel_rfl) (by kernel_rfl) (Yq.of (v := .slice a na ca) (y_move h0_3) rfl) (.p .h .nil) ?_
        refine anyS_take (i := 14) rfl (by kernel_rfl) (by kernel_rfl) (by kernel_rfl) (by kernel_rfl) (Yq.of (v := .int .i64 (((i : Nat) : Int))) (y_move h4_3) rfl) (.p .h .nil) ?_
        refine anyS_take (i := 15) rfl (by kernel_rfl) (by kernel_rfl) (by kernel_rfl) (by kernel_rfl) (Yq.of (v := .pointer (some ⟨aB a, aO a + i * 4, none⟩)) (y_idx (o := i * 4) rfl rfl Try.underlying69 Try.sizeOf23 (oldR hra) ((fl_len recV_len _).trans (by first | omega | (simp only [List.length_set, List.length_take, List.length_drop]; done) | (simp only [List.length_set, List.length_take, List.length_drop]; omega))) (by decide) (by omega) (by omega) (by omega)) rfl) (.p .h .nil) ?_
        refine anyS_take (i := 16) rfl (by kernel_rfl) (by kernel_rfl) (by kernel_rfl) (by kernel_rfl) (Yq.of (v := .pointer (some ⟨aB a, aO a + i * 4 + 2, none⟩)) (y_fieldAddr (o' := aO a + i * 4 + 2) rfl Try.underlying23 rfl Try.sizeOf2 (by decide) rfl) rfl) (.p .h .nil) ?_
        refine anyS_take (i := 17) rfl (by kernel_rfl) (by kernel_rfl) (by kernel_rfl) (by kernel_rfl) (Yq.of (v := .int .i64 (((l.getD i default).value).toInt)) (y_load1 (v := .int .i64 (((l.getD i default).value).toInt)) rfl Try.isAgg2 (rd1 (k := i * 4 + 2) (oldR hra) (fl_get1 (f := 2) recV_len l i (by first | omega | (simp only [List.length_set, List.length_take, List.length_drop]; done) | (simp only [List.length_set, List.length_take, List.length_drop]; omega)) rfl))) rfl) (.p .h .nil) ?_
        refine anyS_take (i := 18) rfl (by kernel_rfl) (by kernel_rfl) (by kernel_rfl) (by kernel_rfl) (Yq.of (v := .int .i64 (((((lkM T ((l.getD i default).key)).getD 0) + ((l.getD i default).value))).toInt)) (y_add (a := (((lkM T ((l.getD i default).key)).getD 0)).toInt) (b := ((l.getD i default).value).toInt) (c := ((((lkM T ((l.getD i default).key)).getD 0) + ((l.getD i default).value))).toInt) rfl rfl (i_add _ _)) rfl) (.p .h .nil) ?_
        refine anyS_all (rs := [19]) (by kernel_rfl) (by simp) ?_
        intro i hi; obtain rfl := List.mem_singleton.1 hi; clear hi
        refine opS_0 rfl rfl ?_
        refine e_mapUpdate (l' := (upM T ((l.getD i default).key) (((lkM T ((l.getD i default).key)).getD 0) + ((l.getD i default).value)))) Try.underlying105 Try.underlying2 rfl rfl rfl .h rfl ?_
        refine ⟨.inl (by simp), ?_⟩
        refine anyS_done (by kernel_rfl) ?_
        refine blockS_n ?_
        refine thenS_n ?_
        refine wpS_region ?_
        refine s_y (v := .int .i64 (((i : Nat) : Int))) (y_move h4_3) rfl ?_
        refine s_y (v := .int .i64 ((((i + 1) : Nat) : Int))) (y_add (a := ((i : Nat) : Int)) (b := 1) (c := (((i + 1) : Nat) : Int)) rfl rfl (wI (by omega) (by omega) (by omega))) rfl ?_
        refine s_y (v := .int .i64 ((((i + 1) : Nat) : Int))) (y_assign rfl) rfl ?_
        refine wpL_nil ?_
        refine thenS_n ?_
        exact ⟨_, by omega, ⟨(i + 1), (upM T ((l.getD i default).key) (((lkM T ((l.getD i default).key)).getD 0) + ((l.getD i default).value))), rfl, by omega, (by first | exact tI_live (by assumption) (by omega) (by assumption) | exact tI_dead (by assumption) (by omega) (by assumption)), rfl, h0_3, h3_3, rfl, .p .h .nil⟩⟩
      · -- !((l.getD i default).dead) false
        have b7 : ((l.getD i default).dead) = true := by simpa using b5
        refine wpS_skip ?_
        refine blockS_n ?_
        refine thenS_n ?_
        refine wpS_region ?_
        refine s_y (v := .int .i64 (((i : Nat) : Int))) (y_move h4_3) rfl ?_
        refine s_y (v := .int .i64 ((((i + 1) : Nat) : Int))) (y_add (a := ((i : Nat) : Int)) (b := 1) (c := (((i + 1) : Nat) : Int)) rfl rfl (wI (by omega) (by omega) (by omega))) rfl ?_
        refine s_y (v := .int .i64 ((((i + 1) : Nat) : Int))) (y_assign rfl) rfl ?_
        refine wpL_nil ?_
        refine thenS_n ?_
        exact ⟨_, by omega, ⟨(i + 1), T, rfl, by omega, (by first | exact tI_live (by assumption) (by omega) (by assumption) | exact tI_dead (by assumption) (by omega) (by assumption)), rfl, h0_3, h3_3, rfl, .p .h .nil⟩⟩
    · -- decide (i < na) false
      have p4 := of_decide_eq_false b4
      refine wpS_exit ?_
      refine thenS_x ?_
      refine thenS_x ?_
      refine blockS_h ?_
      refine thenS_n ?_
      refine wpS_seq ?_
      refine wpS_region ?_
      refine s_e rfl ?_
      refine e_call (f := 94) (args := #[]) (X := Nat) (A := []) (M := [mpu mp_2 T]) (V := fun b : Nat => .agg #[.int .i64 1, .slice none 0 0, .slice (some ⟨b, 0, none⟩) 1 1, .slice none 0 0]) (A' := fun b : Nat => [cel b 86 [.int .i64 2, .int .i64 0, .int .i64 0, .int .i64 1, .int .i64 0, .int .i64 0]]) (C := fun _ => True) Try.call94 ev0 (.p .h .nil) (fun w hs => sum_c w) ?_
      rintro b_8 -
      refine s_y (v := .agg #[.bool true, .int .i64 0, .int .i64 0, .int .i64 0]) (y_buildL (m := [(0, .bool true)]) (vs := #[.bool true, .int .i64 0, .int .i64 0, .int .i64 0]) (evc rfl evn) (fun w => by kernel_rfl)) rfl ?_
      refine s_y (v := .slice a na ca) (y_move h0_3) rfl ?_
      refine s_e rfl ?_
      refine e_call (f := 78) (args := #[.slice a na ca, .bool true]) (X := Option Addr × Nat) (A := []) (M := [cel b_8 86 [.int .i64 2, .int .i64 0, .int .i64 0, .int .i64 1, .int .i64 0, .int .i64 0], mpu mp_2 T]) (V := slV (isort true l)) (A' := fun x => [slR recV 4 23 (isort true l) x]) (C := fun x => (isort true l).length ≤ x.2) Try.call78 (ev2 rfl rfl) (.p .h (.p .h .nil)) (fun w hs => (refsort_c a na ca l true w hna ((oldR hra) w hs) (by omega)).cap) ?_
      rintro ⟨a_9, c_10⟩ hc11; replace hc11 : (isort true l).length ≤ c_10 := hc11
      refine s_y (v := .agg #[.bool true, .int .i64 0, .int .i64 0, .int .i64 0]) (y_buildL (m := [(0, .bool true)]) (vs := #[.bool true, .int .i64 0, .int .i64 0, .int .i64 0]) (evc rfl evn) (fun w => by kernel_rfl)) rfl ?_
      refine s_e rfl ?_
      refine e_bsliceL (e := 23) (m := [(0, .agg #[.bool true, .int .i64 0, .int .i64 0, .int .i64 0])]) (l := [.bool true, .int .i64 0, .int .i64 0, .int .i64 0]) (evc rfl evn) (fun w => by kernel_rfl) ?_
      intro b_13
      refine s_e rfl ?_
      refine e_appendL (enc := recV) (xs := ((isort true l) : List Rec)) (ns := ([(Rec.mk true 0 0 0)] : List Rec)) (zs := ((isort true l) ++ [(Rec.mk true 0 0 0)])) (bytes := 32) recV_len recV_one Try.underlying69 (i := Try.t23) rfl rfl rfl rfl rfl (by decide) rfl rfl (by first | rfl | omega) (by first | rfl | omega) (.t .h) (fun w hs => celR .h w hs) (by first | rfl | simp) (by (try simp only [List.length_append, List.length_cons, List.length_nil] at *); omega) (by (try simp only [List.length_append, List.length_cons, List.length_nil] at *); omega) ?_
      intro a_14 c_15
      refine s_e rfl ?_
      refine e_call (f := 91) (args := #[.agg #[.int .i64 1, .slice none 0 0, .slice (some ⟨b_8, 0, none⟩) 1 1, .slice none 0 0], .agg #[.bool true, .int .i64 0, .int .i64 0, .int .i64 0], .slice a_14 (((isort true l) ++ [(Rec.mk true 0 0 0)]).length) c_15]) (X := Option Addr × Nat) (A := []) (M := [osl a_14 c_15 (((isort true l) ++ [(Rec.mk true 0 0 0)]).length) 4 23 (((isort true l) ++ [(Rec.mk true 0 0 0)]).flatMap recV), cel b_13 23 [.bool true, .int .i64 0, .int .i64 0, .int .i64 0], cel b_8 86 [.int .i64 2, .int .i64 0, .int .i64 0, .int .i64 1, .int .i64 0, .int .i64 0], mpu mp_2 T]) (V := fun x => .tuple #[slV (stepO (chkB 1 ([]) ([(Opc.mk 2 0 0 1 0 0)]) ([])) ([(Opc.mk 2 0 0 1 0 0)]) ([]) (Rec.mk true 0 0 0) ((isort true l) ++ [(Rec.mk true 0 0 0)])) x, .agg #[.bool ((stepC (chkB 1 ([]) ([(Opc.mk 2 0 0 1 0 0)]) ([])) ([(Opc.mk 2 0 0 1 0 0)]) ([]) (Rec.mk true 0 0 0) ((isort true l) ++ [(Rec.mk true 0 0 0)])).dead), .int .i64 (((stepC (chkB 1 ([]) ([(Opc.mk 2 0 0 1 0 0)]) ([])) ([(Opc.mk 2 0 0 1 0 0)]) ([]) (Rec.mk true 0 0 0) ((isort true l) ++ [(Rec.mk true 0 0 0)])).key).toInt), .int .i64 (((stepC (chkB 1 ([]) ([(Opc.mk 2 0 0 1 0 0)]) ([])) ([(Opc.mk 2 0 0 1 0 0)]) ([]) (Rec.mk true 0 0 0) ((isort true l) ++ [(Rec.mk true 0 0 0)])).value).toInt), .int .i64 (((stepC (chkB 1 ([]) ([(Opc.mk 2 0 0 1 0 0)]) ([])) ([(Opc.mk 2 0 0 1 0 0)]) ([]) (Rec.mk true 0 0 0) ((isort true l) ++ [(Rec.mk true 0 0 0)])).seq).toInt)]]) (A' := fun x => [slR recV 4 23 (stepO (chkB 1 ([]) ([(Opc.mk 2 0 0 1 0 0)]) ([])) ([(Opc.mk 2 0 0 1 0 0)]) ([]) (Rec.mk true 0 0 0) ((isort true l) ++ [(Rec.mk true 0 0 0)])) x]) (C := fun _ => True) Try.call91 (ev3 rfl rfl rfl) (.p .h (.p .h (.p .h (.p .h .nil)))) (fun w hs => cstep_c 1 none (some ⟨b_8, 0, none⟩) none 0 0 1 1 0 0 ([]) ([(Opc.mk 2 0 0 1 0 0)]) ([]) (Rec.mk true 0 0 0) a_14 (((isort true l) ++ [(Rec.mk true 0 0 0)]).length) c_15 ((isort true l) ++ [(Rec.mk true 0 0 0)]) w (by first | rfl | (simp only [List.length_set]; done) | omega) (Rds.nil _ _) (by omega) (by first | rfl | (simp only [List.length_set]; done) | omega) (celR (.t (.t .h)) w hs) (by omega) (by first | rfl | (simp only [List.length_set]; done) | omega) (Rds.nil _ _) (by omega) rfl (oslR .h w hs) (by omega)) ?_
      rintro ⟨a_16, c_17⟩ -
      have hso19 : (stepO (chkB 1 ([]) ([(Opc.mk 2 0 0 1 0 0)]) ([])) ([(Opc.mk 2 0 0 1 0 0)]) ([]) (Rec.mk true 0 0 0) ((isort true l) ++ [(Rec.mk true 0 0 0)])).length = ((isort true l) ++ [(Rec.mk true 0 0 0)]).length := stepO_len sum_ok
      try simp only [List.length_cons, List.length_nil, Nat.zero_add] at hso19
      refine s_y (v := .tuple #[.slice a_16 ((stepO (chkB 1 ([]) ([(Opc.mk 2 0 0 1 0 0)]) ([])) ([(Opc.mk 2 0 0 1 0 0)]) ([]) (Rec.mk true 0 0 0) ((isort true l) ++ [(Rec.mk true 0 0 0)])).length) c_17, .agg #[.bool ((stepC (chkB 1 ([]) ([(Opc.mk 2 0 0 1 0 0)]) ([])) ([(Opc.mk 2 0 0 1 0 0)]) ([]) (Rec.mk true 0 0 0) ((isort true l) ++ [(Rec.mk true 0 0 0)])).dead), .int .i64 (((stepC (chkB 1 ([]) ([(Opc.mk 2 0 0 1 0 0)]) ([])) ([(Opc.mk 2 0 0 1 0 0)]) ([]) (Rec.mk true 0 0 0) ((isort true l) ++ [(Rec.mk true 0 0 0)])).key).toInt), .int .i64 (((stepC (chkB 1 ([]) ([(Opc.mk 2 0 0 1 0 0)]) ([])) ([(Opc.mk 2 0 0 1 0 0)]) ([]) (Rec.mk true 0 0 0) ((isort true l) ++ [(Rec.mk true 0 0 0)])).value).toInt), .int .i64 (((stepC (chkB 1 ([]) ([(Opc.mk 2 0 0 1 0 0)]) ([])) ([(Opc.mk 2 0 0 1 0 0)]) ([]) (Rec.mk true 0 0 0) ((isort true l) ++ [(Rec.mk true 0 0 0)])).seq).toInt)]]) (y_move rfl) rfl ?_
      refine s_y (v := .slice a_16 ((stepO (chkB 1 ([]) ([(Opc.mk 2 0 0 1 0 0)]) ([])) ([(Opc.mk 2 0 0 1 0 0)]) ([]) (Rec.mk true 0 0 0) ((isort true l) ++ [(Rec.mk true 0 0 0)])).length) c_17) (y_extract (v := .slice a_16 ((stepO (chkB 1 ([]) ([(Opc.mk 2 0 0 1 0 0)]) ([])) ([(Opc.mk 2 0 0 1 0 0)]) ([]) (Rec.mk true 0 0 0) ((isort true l) ++ [(Rec.mk true 0 0 0)])).length) c_17) rfl rfl) rfl ?_
      refine s_y (v := .agg #[.bool ((stepC (chkB 1 ([]) ([(Opc.mk 2 0 0 1 0 0)]) ([])) ([(Opc.mk 2 0 0 1 0 0)]) ([]) (Rec.mk true 0 0 0) ((isort true l) ++ [(Rec.mk true 0 0 0)])).dead), .int .i64 (((stepC (chkB 1 ([]) ([(Opc.mk 2 0 0 1 0 0)]) ([])) ([(Opc.mk 2 0 0 1 0 0)]) ([]) (Rec.mk true 0 0 0) ((isort true l) ++ [(Rec.mk true 0 0 0)])).key).toInt), .int .i64 (((stepC (chkB 1 ([]) ([(Opc.mk 2 0 0 1 0 0)]) ([])) ([(Opc.mk 2 0 0 1 0 0)]) ([]) (Rec.mk true 0 0 0) ((isort true l) ++ [(Rec.mk true 0 0 0)])).value).toInt), .int .i64 (((stepC (chkB 1 ([]) ([(Opc.mk 2 0 0 1 0 0)]) ([])) ([(Opc.mk 2 0 0 1 0 0)]) ([]) (Rec.mk true 0 0 0) ((isort true l) ++ [(Rec.mk true 0 0 0)])).seq).toInt)]) (y_extract (v := .agg #[.bool ((stepC (chkB 1 ([]) ([(Opc.mk 2 0 0 1 0 0)]) ([])) ([(Opc.mk 2 0 0 1 0 0)]) ([]) (Rec.mk true 0 0 0) ((isort true l) ++ [(Rec.mk true 0 0 0)])).dead), .int .i64 (((stepC (chkB 1 ([]) ([(Opc.mk 2 0 0 1 0 0)]) ([])) ([(Opc.mk 2 0 0 1 0 0)]) ([]) (Rec.mk true 0 0 0) ((isort true l) ++ [(Rec.mk true 0 0 0)])).key).toInt), .int .i64 (((stepC (chkB 1 ([]) ([(Opc.mk 2 0 0 1 0 0)]) ([])) ([(Opc.mk 2 0 0 1 0 0)]) ([]) (Rec.mk true 0 0 0) ((isort true l) ++ [(Rec.mk true 0 0 0)])).value).toInt), .int .i64 (((stepC (chkB 1 ([]) ([(Opc.mk 2 0 0 1 0 0)]) ([])) ([(Opc.mk 2 0 0 1 0 0)]) ([]) (Rec.mk true 0 0 0) ((isort true l) ++ [(Rec.mk true 0 0 0)])).seq).toInt)]) rfl rfl) rfl ?_
      refine s_e rfl ?_
      refine e_alloc (l := [.bool false, .int .i64 0, .int .i64 0, .int .i64 0]) Try.zeroValue23 rfl ?_
      intro b_20
      refine s_y (v := .slice a_16 ((stepO (chkB 1 ([]) ([(Opc.mk 2 0 0 1 0 0)]) ([])) ([(Opc.mk 2 0 0 1 0 0)]) ([]) (Rec.mk true 0 0 0) ((isort true l) ++ [(Rec.mk true 0 0 0)])).length) c_17) (y_assign rfl) rfl ?_
      refine s_e0 ?_
      refine e_store (vs := [.bool ((stepC (chkB 1 ([]) ([(Opc.mk 2 0 0 1 0 0)]) ([])) ([(Opc.mk 2 0 0 1 0 0)]) ([]) (Rec.mk true 0 0 0) ((isort true l) ++ [(Rec.mk true 0 0 0)])).dead), .int .i64 (((stepC (chkB 1 ([]) ([(Opc.mk 2 0 0 1 0 0)]) ([])) ([(Opc.mk 2 0 0 1 0 0)]) ([]) (Rec.mk true 0 0 0) ((isort true l) ++ [(Rec.mk true 0 0 0)])).key).toInt), .int .i64 (((stepC (chkB 1 ([]) ([(Opc.mk 2 0 0 1 0 0)]) ([])) ([(Opc.mk 2 0 0 1 0 0)]) ([]) (Rec.mk true 0 0 0) ((isort true l) ++ [(Rec.mk true 0 0 0)])).value).toInt), .int .i64 (((stepC (chkB 1 ([]) ([(Opc.mk 2 0 0 1 0 0)]) ([])) ([(Opc.mk 2 0 0 1 0 0)]) ([]) (Rec.mk true 0 0 0) ((isort true l) ++ [(Rec.mk true 0 0 0)])).seq).toInt)]) (l' := [.bool ((stepC (chkB 1 ([]) ([(Opc.mk 2 0 0 1 0 0)]) ([])) ([(Opc.mk 2 0 0 1 0 0)]) ([]) (Rec.mk true 0 0 0) ((isort true l) ++ [(Rec.mk true 0 0 0)])).dead), .int .i64 (((stepC (chkB 1 ([]) ([(Opc.mk 2 0 0 1 0 0)]) ([])) ([(Opc.mk 2 0 0 1 0 0)]) ([]) (Rec.mk true 0 0 0) ((isort true l) ++ [(Rec.mk true 0 0 0)])).key).toInt), .int .i64 (((stepC (chkB 1 ([]) ([(Opc.mk 2 0 0 1 0 0)]) ([])) ([(Opc.mk 2 0 0 1 0 0)]) ([]) (Rec.mk true 0 0 0) ((isort true l) ++ [(Rec.mk true 0 0 0)])).value).toInt), .int .i64 (((stepC (chkB 1 ([]) ([(Opc.mk 2 0 0 1 0 0)]) ([])) ([(Opc.mk 2 0 0 1 0 0)]) ([]) (Rec.mk true 0 0 0) ((isort true l) ++ [(Rec.mk true 0 0 0)])).seq).toInt)]) rfl rfl rfl rfl Try.sizeOf23 .h (Nat.le_of_ble_eq_true rfl) rfl ?_
      refine wpL_nil ?_
      refine thenS_n ?_
      refine wpS_seq ?_
      refine wpS_seq ?_
      refine wpS_region ?_
      refine s_y (v := .bool true) (y_call (args := #[]) (v := .bool true) Try.call90 ev0 (fun w hs => awake15_c w)) rfl ?_
      refine s_y (v := .bool false) (y_notK (b := true) (c := false) rfl rfl) rfl ?_
      refine s_y (v := .bool false) (y_move rfl) rfl ?_
      refine s_gy (y_fieldAddr (o' := 0) rfl Try.underlying23 rfl Try.sizeOf4 (by decide) rfl) rfl rfl rfl rfl rfl rfl ?_
      refine s_gy (y_load1 rfl Try.isAgg4 (own1 .h rfl)) rfl rfl rfl rfl rfl rfl ?_
      refine s_gy (y_not (b := (stepC (chkB 1 ([]) ([(Opc.mk 2 0 0 1 0 0)]) ([])) ([(Opc.mk 2 0 0 1 0 0)]) ([]) (Rec.mk true 0 0 0) ((isort true l) ++ [(Rec.mk true 0 0 0)])).dead) rfl) rfl rfl rfl rfl rfl rfl ?_
      refine s_y (v := .bool (!((stepC (chkB 1 ([]) ([(Opc.mk 2 0 0 1 0 0)]) ([])) ([(Opc.mk 2 0 0 1 0 0)]) ([]) (Rec.mk true 0 0 0) ((isort true l) ++ [(Rec.mk true 0 0 0)])).dead))) (y_pickF (v := .bool (!((stepC (chkB 1 ([]) ([(Opc.mk 2 0 0 1 0 0)]) ([])) ([(Opc.mk 2 0 0 1 0 0)]) ([]) (Rec.mk true 0 0 0) ((isort true l) ++ [(Rec.mk true 0 0 0)])).dead))) rfl rfl rfl) rfl ?_
      refine s_y (v := .bool (!((stepC (chkB 1 ([]) ([(Opc.mk 2 0 0 1 0 0)]) ([])) ([(Opc.mk 2 0 0 1 0 0)]) ([]) (Rec.mk true 0 0 0) ((isort true l) ++ [(Rec.mk true 0 0 0)])).dead))) (y_move rfl) rfl ?_
      refine s_gy (y_move rfl) rfl rfl rfl rfl (b' := !((stepC (chkB 1 ([]) ([(Opc.mk 2 0 0 1 0 0)]) ([])) ([(Opc.mk 2 0 0 1 0 0)]) ([]) (Rec.mk true 0 0 0) ((isort true l) ++ [(Rec.mk true 0 0 0)])).dead)) rfl (congrArg not (sumX_out l).2) ?_
      refine s_gy (y_len (ty' := 0) (at_ := #[]) rfl Try.underlying69) rfl rfl rfl rfl (b' := !((stepC (chkB 1 ([]) ([(Opc.mk 2 0 0 1 0 0)]) ([])) ([(Opc.mk 2 0 0 1 0 0)]) ([]) (Rec.mk true 0 0 0) ((isort true l) ++ [(Rec.mk true 0 0 0)])).dead)) rfl (congrArg not (sumX_out l).2) ?_
      refine s_gy (y_move h0_3) rfl rfl rfl rfl (b' := !((stepC (chkB 1 ([]) ([(Opc.mk 2 0 0 1 0 0)]) ([])) ([(Opc.mk 2 0 0 1 0 0)]) ([]) (Rec.mk true 0 0 0) ((isort true l) ++ [(Rec.mk true 0 0 0)])).dead)) rfl (congrArg not (sumX_out l).2) ?_
      refine s_gy (y_len (ty' := 0) (at_ := #[]) rfl Try.underlying69) rfl rfl rfl rfl (b' := !((stepC (chkB 1 ([]) ([(Opc.mk 2 0 0 1 0 0)]) ([])) ([(Opc.mk 2 0 0 1 0 0)]) ([]) (Rec.mk true 0 0 0) ((isort true l) ++ [(Rec.mk true 0 0 0)])).dead)) rfl (congrArg not (sumX_out l).2) ?_
      refine s_gy (y_add (a := ((na : Nat) : Int)) (b := 1) (c := (((na + 1) : Nat) : Int)) rfl rfl (wI (by omega) (by omega) (by omega))) rfl rfl rfl rfl (b' := !((stepC (chkB 1 ([]) ([(Opc.mk 2 0 0 1 0 0)]) ([])) ([(Opc.mk 2 0 0 1 0 0)]) ([]) (Rec.mk true 0 0 0) ((isort true l) ++ [(Rec.mk true 0 0 0)])).dead)) rfl (congrArg not (sumX_out l).2) ?_
      refine s_gy (y_neq (a := (((stepO (chkB 1 ([]) ([(Opc.mk 2 0 0 1 0 0)]) ([])) ([(Opc.mk 2 0 0 1 0 0)]) ([]) (Rec.mk true 0 0 0) ((isort true l) ++ [(Rec.mk true 0 0 0)])).length : Nat) : Int)) (b := (((na + 1) : Nat) : Int)) (c := decide (((stepO (chkB 1 ([]) ([(Opc.mk 2 0 0 1 0 0)]) ([])) ([(Opc.mk 2 0 0 1 0 0)]) ([]) (Rec.mk true 0 0 0) ((isort true l) ++ [(Rec.mk true 0 0 0)])).length) ≠ (na + 1))) rfl rfl (decide_eq_decide.2 (by omega))) rfl rfl rfl rfl (b' := !((stepC (chkB 1 ([]) ([(Opc.mk 2 0 0 1 0 0)]) ([])) ([(Opc.mk 2 0 0 1 0 0)]) ([]) (Rec.mk true 0 0 0) ((isort true l) ++ [(Rec.mk true 0 0 0)])).dead)) rfl (congrArg not (sumX_out l).2) ?_
      refine s_y (v := .bool (decide (((stepO (chkB 1 ([]) ([(Opc.mk 2 0 0 1 0 0)]) ([])) ([(Opc.mk 2 0 0 1 0 0)]) ([]) (Rec.mk true 0 0 0) ((isort true l) ++ [(Rec.mk true 0 0 0)])).length) ≠ (na + 1)))) (y_pickF (b := !((stepC (chkB 1 ([]) ([(Opc.mk 2 0 0 1 0 0)]) ([])) ([(Opc.mk 2 0 0 1 0 0)]) ([]) (Rec.mk true 0 0 0) ((isort true l) ++ [(Rec.mk true 0 0 0)])).dead)) (v := .bool (decide (((stepO (chkB 1 ([]) ([(Opc.mk 2 0 0 1 0 0)]) ([])) ([(Opc.mk 2 0 0 1 0 0)]) ([]) (Rec.mk true 0 0 0) ((isort true l) ++ [(Rec.mk true 0 0 0)])).length) ≠ (na + 1)))) rfl (congrArg not (sumX_out l).2) rfl) rfl ?_
      refine wpL_nil ?_
      refine thenS_n ?_
      refine wpS_cond_F (t := decide (((stepO (chkB 1 ([]) ([(Opc.mk 2 0 0 1 0 0)]) ([])) ([(Opc.mk 2 0 0 1 0 0)]) ([]) (Rec.mk true 0 0 0) ((isort true l) ++ [(Rec.mk true 0 0 0)])).length) ≠ (na + 1))) rfl (decide_eq_false (by omega)) ?_
      refine wpS_skip ?_
      refine thenS_n ?_
      refine wpS_seq ?_
      refine wpS_seq ?_
      refine wpS_region ?_
      refine s_y (v := .int .i64 0) (y_assign rfl) rfl ?_
      refine wpL_nil ?_
      refine thenS_n ?_
      refine wpS_block ?_
      refine wpS_loop (fun mez ds σ L => ∃ j : Nat, ∃ T2 : KV, mez = na + 1 - j ∧ (j ≤ na + 1) ∧ (DI T2 l (sumX l) j) ∧ ds = [] ∧ σ 3 = .map (some mp_2) ∧ σ 5 = .slice a_16 ((stepO (chkB 1 ([]) ([(Opc.mk 2 0 0 1 0 0)]) ([])) ([(Opc.mk 2 0 0 1 0 0)]) ([]) (Rec.mk true 0 0 0) ((isort true l) ++ [(Rec.mk true 0 0 0)])).length) c_17 ∧ σ 7 = .int .i64 (((j : Nat) : Int)) ∧ Ent L [cel b_20 23 [.bool ((stepC (chkB 1 ([]) ([(Opc.mk 2 0 0 1 0 0)]) ([])) ([(Opc.mk 2 0 0 1 0 0)]) ([]) (Rec.mk true 0 0 0) ((isort true l) ++ [(Rec.mk true 0 0 0)])).dead), .int .i64 (((stepC (chkB 1 ([]) ([(Opc.mk 2 0 0 1 0 0)]) ([])) ([(Opc.mk 2 0 0 1 0 0)]) ([]) (Rec.mk true 0 0 0) ((isort true l) ++ [(Rec.mk true 0 0 0)])).key).toInt), .int .i64 (((stepC (chkB 1 ([]) ([(Opc.mk 2 0 0 1 0 0)]) ([])) ([(Opc.mk 2 0 0 1 0 0)]) ([]) (Rec.mk true 0 0 0) ((isort true l) ++ [(Rec.mk true 0 0 0)])).value).toInt), .int .i64 (((stepC (chkB 1 ([]) ([(Opc.mk 2 0 0 1 0 0)]) ([])) ([(Opc.mk 2 0 0 1 0 0)]) ([]) (Rec.mk true 0 0 0) ((isort true l) ++ [(Rec.mk true 0 0 0)])).seq).toInt)], osl a_16 c_17 ((stepO (chkB 1 ([]) ([(Opc.mk 2 0 0 1 0 0)]) ([])) ([(Opc.mk 2 0 0 1 0 0)]) ([]) (Rec.mk true 0 0 0) ((isort true l) ++ [(Rec.mk true 0 0 0)])).length) 4 23 ((stepO (chkB 1 ([]) ([(Opc.mk 2 0 0 1 0 0)]) ([])) ([(Opc.mk 2 0 0 1 0 0)]) ([]) (Rec.mk true 0 0 0) ((isort true l) ++ [(Rec.mk true 0 0 0)])).flatMap recV), osl a_14 c_15 (((isort true l) ++ [(Rec.mk true 0 0 0)]).length) 4 23 (((isort true l) ++ [(Rec.mk true 0 0 0)]).flatMap recV), cel b_13 23 [.bool true, .int .i64 0, .int .i64 0, .int .i64 0], cel b_8 86 [.int .i64 2, .int .i64 0, .int .i64 0, .int .i64 1, .int .i64 0, .int .i64 0], mpu mp_2 T2]) (m0 := na + 1 - 0) ⟨0, T, rfl, by omega, (dI_0 (by have h := (show TI T (l.take i) by assumption); rwa [List.take_of_length_le (by omega)] at h)), rfl, h3_3, rfl, rfl, .p .h (.p .h (.p .h (.p .h (.p .h (.p .h .nil)))))⟩ ?_
      rintro mez ds σ L ⟨j, T2, hm_21, hf0_21, hf1_21, rfl, h3_21, h5_21, h7_21, hE_21⟩
      refine wpS_ent hE_21 ?_; clear hE_21
      refine wpS_seq ?_
      refine wpS_seq ?_
      refine wpS_region ?_
      refine s_y (v := .int .i64 (((j : Nat) : Int))) (y_move h7_21) rfl ?_
      refine s_y (v := .slice a_16 ((stepO (chkB 1 ([]) ([(Opc.mk 2 0 0 1 0 0)]) ([])) ([(Opc.mk 2 0 0 1 0 0)]) ([]) (Rec.mk true 0 0 0) ((isort true l) ++ [(Rec.mk true 0 0 0)])).length) c_17) (y_move h5_21) rfl ?_
      refine s_y (v := .int .i64 ((((stepO (chkB 1 ([]) ([(Opc.mk 2 0 0 1 0 0)]) ([])) ([(Opc.mk 2 0 0 1 0 0)]) ([]) (Rec.mk true 0 0 0) ((isort true l) ++ [(Rec.mk true 0 0 0)])).length : Nat) : Int))) (y_len (ty' := 0) (at_ := #[]) rfl Try.underlying69) rfl ?_
      refine s_y (v := .bool (decide (j < ((stepO (chkB 1 ([]) ([(Opc.mk 2 0 0 1 0 0)]) ([])) ([(Opc.mk 2 0 0 1 0 0)]) ([]) (Rec.mk true 0 0 0) ((isort true l) ++ [(Rec.mk true 0 0 0)])).length)))) (y_lss (a := ((j : Nat) : Int)) (b := (((stepO (chkB 1 ([]) ([(Opc.mk 2 0 0 1 0 0)]) ([])) ([(Opc.mk 2 0 0 1 0 0)]) ([]) (Rec.mk true 0 0 0) ((isort true l) ++ [(Rec.mk true 0 0 0)])).length : Nat) : Int)) (c := decide (j < ((stepO (chkB 1 ([]) ([(Opc.mk 2 0 0 1 0 0)]) ([])) ([(Opc.mk 2 0 0 1 0 0)]) ([]) (Rec.mk true 0 0 0) ((isort true l) ++ [(Rec.mk true 0 0 0)])).length))) rfl rfl (decide_eq_decide.2 (by omega))) rfl ?_
      refine wpL_nil ?_
      refine thenS_n ?_
      refine wpS_cond (t := decide (j < ((stepO (chkB 1 ([]) ([(Opc.mk 2 0 0 1 0 0)]) ([])) ([(Opc.mk 2 0 0 1 0 0)]) ([]) (Rec.mk true 0 0 0) ((isort true l) ++ [(Rec.mk true 0 0 0)])).length))) rfl (fun b22 => ?_) (fun b22 => ?_)
      · -- decide (j < ((stepO (chkB 1 ([]) ([(Opc.mk 2 0 0 1 0 0)]) ([])) ([(Opc.mk 2 0 0 1 0 0)]) ([]) (Rec.mk true 0 0 0) ((isort true l) ++ [(Rec.mk true 0 0 0)])).length)) true
        have p22 := of_decide_eq_true b22
        refine wpS_skip ?_
        refine thenS_n ?_
        refine wpS_seq ?_
        refine wpS_block ?_
        refine wpS_seq ?_
        refine wpS_seq ?_
        refine wpS_region ?_
        refine s_y (v := .slice a_16 ((stepO (chkB 1 ([]) ([(Opc.mk 2 0 0 1 0 0)]) ([])) ([(Opc.mk 2 0 0 1 0 0)]) ([]) (Rec.mk true 0 0 0) ((isort true l) ++ [(Rec.mk true 0 0 0)])).length) c_17) (y_move h5_21) rfl ?_
        refine s_y (v := .int .i64 (((j : Nat) : Int))) (y_move h7_21) rfl ?_
        refine s_y (v := .pointer (some ⟨aB a_16, aO a_16 + j * 4, none⟩)) (y_idx (o := j * 4) rfl rfl Try.underlying69 Try.sizeOf23 (oslR (.t .h)) (fl_len recV_len _) (by decide) (by omega) (by omega) (by omega)) rfl ?_
        refine s_y (v := .pointer (some ⟨aB a_16, aO a_16 + j * 4, none⟩)) (y_fieldAddr (o' := aO a_16 + j * 4) rfl Try.underlying23 rfl Try.sizeOf4 (by decide) rfl) rfl ?_
        refine s_y (v := .bool (((stepO (chkB 1 ([]) ([(Opc.mk 2 0 0 1 0 0)]) ([])) ([(Opc.mk 2 0 0 1 0 0)]) ([]) (Rec.mk true 0 0 0) ((isort true l) ++ [(Rec.mk true 0 0 0)])).getD j default).dead)) (y_load1 (v := .bool (((stepO (chkB 1 ([]) ([(Opc.mk 2 0 0 1 0 0)]) ([])) ([(Opc.mk 2 0 0 1 0 0)]) ([]) (Rec.mk true 0 0 0) ((isort true l) ++ [(Rec.mk true 0 0 0)])).getD j default).dead)) rfl Try.isAgg4 (rd1 (k := j * 4) (oslR (.t .h)) (fl_get0 recV_len (stepO (chkB 1 ([]) ([(Opc.mk 2 0 0 1 0 0)]) ([])) ([(Opc.mk 2 0 0 1 0 0)]) ([]) (Rec.mk true 0 0 0) ((isort true l) ++ [(Rec.mk true 0 0 0)])) j (by first | omega | (simp only [List.length_set, List.length_take, List.length_drop]; done) | (simp only [List.length_set, List.length_take, List.length_drop]; omega)) rfl))) rfl ?_
        refine wpL_nil ?_
        refine thenS_n ?_
        refine wpS_cond (t := ((stepO (chkB 1 ([]) ([(Opc.mk 2 0 0 1 0 0)]) ([])) ([(Opc.mk 2 0 0 1 0 0)]) ([]) (Rec.mk true 0 0 0) ((isort true l) ++ [(Rec.mk true 0 0 0)])).getD j default).dead) rfl (fun b23 => ?_) (fun b23 => ?_)
        · -- ((stepO (chkB 1 ([]) ([(Opc.mk 2 0 0 1 0 0)]) ([])) ([(Opc.mk 2 0 0 1 0 0)]) ([]) (Rec.mk true 0 0 0) ((isort true l) ++ [(Rec.mk true 0 0 0)])).getD j default).dead true
          refine wpS_exit ?_
          refine thenS_x ?_
          refine blockS_h ?_
          refine thenS_n ?_
          refine wpS_region ?_
          refine s_y (v := .int .i64 (((j : Nat) : Int))) (y_move h7_21) rfl ?_
          refine s_y (v := .int .i64 ((((j + 1) : Nat) : Int))) (y_add (a := ((j : Nat) : Int)) (b := 1) (c := (((j + 1) : Nat) : Int)) rfl rfl (wI (by omega) (by omega) (by omega))) rfl ?_
          refine s_y (v := .int .i64 ((((j + 1) : Nat) : Int))) (y_assign rfl) rfl ?_
          refine wpL_nil ?_
          refine thenS_n ?_
          exact ⟨_, by omega, ⟨(j + 1), T2, rfl, by omega, (by first | exact hat.2.2 | exact dI_dead (by assumption) (by omega) (by assumption)), rfl, h3_21, h5_21, rfl, .p .h (.p .h (.p .h (.p .h (.p .h (.p .h .nil)))))⟩⟩
        · -- ((stepO (chkB 1 ([]) ([(Opc.mk 2 0 0 1 0 0)]) ([])) ([(Opc.mk 2 0 0 1 0 0)]) ([]) (Rec.mk true 0 0 0) ((isort true l) ++ [(Rec.mk true 0 0 0)])).getD j default).dead false
          have hat := dI_at (by assumption) (sumX_out l).1 (i := j) (by omega) b23
          refine wpS_skip ?_
          refine thenS_n ?_
          refine wpS_seq ?_
          refine wpS_region ?_
          refine s_y (v := .map (some mp_2)) (y_move h3_21) rfl ?_
          refine s_y (v := .slice a_16 ((stepO (chkB 1 ([]) ([(Opc.mk 2 0 0 1 0 0)]) ([])) ([(Opc.mk 2 0 0 1 0 0)]) ([]) (Rec.mk true 0 0 0) ((isort true l) ++ [(Rec.mk true 0 0 0)])).length) c_17) (y_move h5_21) rfl ?_
          refine s_y (v := .int .i64 (((j : Nat) : Int))) (y_move h7_21) rfl ?_
          refine s_y (v := .pointer (some ⟨aB a_16, aO a_16 + j * 4, none⟩)) (y_idx (o := j * 4) rfl rfl Try.underlying69 Try.sizeOf23 (oslR (.t .h)) (fl_len recV_len _) (by decide) (by omega) (by omega) (by omega)) rfl ?_
          refine s_y (v := .pointer (some ⟨aB a_16, aO a_16 + j * 4 + 1, none⟩)) (y_fieldAddr (o' := aO a_16 + j * 4 + 1) rfl Try.underlying23 rfl Try.sizeOf2 (by decide) rfl) rfl ?_
          refine s_y (v := .int .i64 ((((stepO (chkB 1 ([]) ([(Opc.mk 2 0 0 1 0 0)]) ([])) ([(Opc.mk 2 0 0 1 0 0)]) ([]) (Rec.mk true 0 0 0) ((isort true l) ++ [(Rec.mk true 0 0 0)])).getD j default).key).toInt)) (y_load1 (v := .int .i64 ((((stepO (chkB 1 ([]) ([(Opc.mk 2 0 0 1 0 0)]) ([])) ([(Opc.mk 2 0 0 1 0 0)]) ([]) (Rec.mk true 0 0 0) ((isort true l) ++ [(Rec.mk true 0 0 0)])).getD j default).key).toInt)) rfl Try.isAgg2 (rd1 (k := j * 4 + 1) (oslR (.t .h)) (fl_get1 (f := 1) recV_len (stepO (chkB 1 ([]) ([(Opc.mk 2 0 0 1 0 0)]) ([])) ([(Opc.mk 2 0 0 1 0 0)]) ([]) (Rec.mk true 0 0 0) ((isort true l) ++ [(Rec.mk true 0 0 0)])) j (by first | omega | (simp only [List.length_set, List.length_take, List.length_drop]; done) | (simp only [List.length_set, List.length_take, List.length_drop]; omega)) rfl))) rfl ?_
          refine s_y (v := .tuple #[.int .i64 ((((lkM T2 (((stepO (chkB 1 ([]) ([(Opc.mk 2 0 0 1 0 0)]) ([])) ([(Opc.mk 2 0 0 1 0 0)]) ([]) (Rec.mk true 0 0 0) ((isort true l) ++ [(Rec.mk true 0 0 0)])).getD j default).key)).getD 0)).toInt), .bool ((lkM T2 (((stepO (chkB 1 ([]) ([(Opc.mk 2 0 0 1 0 0)]) ([])) ([(Opc.mk 2 0 0 1 0 0)]) ([]) (Rec.mk true 0 0 0) ((isort true l) ++ [(Rec.mk true 0 0 0)])).getD j default).key)).isSome)]) (y_lookup2 (k := ((stepO (chkB 1 ([]) ([(Opc.mk 2 0 0 1 0 0)]) ([])) ([(Opc.mk 2 0 0 1 0 0)]) ([]) (Rec.mk true 0 0 0) ((isort true l) ++ [(Rec.mk true 0 0 0)])).getD j default).key) (v := ((lkM T2 (((stepO (chkB 1 ([]) ([(Opc.mk 2 0 0 1 0 0)]) ([])) ([(Opc.mk 2 0 0 1 0 0)]) ([]) (Rec.mk true 0 0 0) ((isort true l) ++ [(Rec.mk true 0 0 0)])).getD j default).key)).getD 0)) (b := (lkM T2 (((stepO (chkB 1 ([]) ([(Opc.mk 2 0 0 1 0 0)]) ([])) ([(Opc.mk 2 0 0 1 0 0)]) ([]) (Rec.mk true 0 0 0) ((isort true l) ++ [(Rec.mk true 0 0 0)])).getD j default).key)).isSome) Try.underlying105 Try.underlying2 Try.zeroValue2 rfl rfl (.t (.t (.t (.t (.t .h))))) rfl rfl) rfl ?_
          refine s_y (v := .tuple #[.int .i64 ((((lkM T2 (((stepO (chkB 1 ([]) ([(Opc.mk 2 0 0 1 0 0)]) ([])) ([(Opc.mk 2 0 0 1 0 0)]) ([]) (Rec.mk true 0 0 0) ((isort true l) ++ [(Rec.mk true 0 0 0)])).getD j default).key)).getD 0)).toInt), .bool ((lkM T2 (((stepO (chkB 1 ([]) ([(Opc.mk 2 0 0 1 0 0)]) ([])) ([(Opc.mk 2 0 0 1 0 0)]) ([]) (Rec.mk true 0 0 0) ((isort true l) ++ [(Rec.mk true 0 0 0)])).getD j default).key)).isSome)]) (y_move rfl) rfl ?_
          refine s_y (v := .int .i64 ((((lkM T2 (((stepO (chkB 1 ([]) ([(Opc.mk 2 0 0 1 0 0)]) ([])) ([(Opc.mk 2 0 0 1 0 0)]) ([]) (Rec.mk true 0 0 0) ((isort true l) ++ [(Rec.mk true 0 0 0)])).getD j default).key)).getD 0)).toInt)) (y_extract (v := .int .i64 ((((lkM T2 (((stepO (chkB 1 ([]) ([(Opc.mk 2 0 0 1 0 0)]) ([])) ([(Opc.mk 2 0 0 1 0 0)]) ([]) (Rec.mk true 0 0 0) ((isort true l) ++ [(Rec.mk true 0 0 0)])).getD j default).key)).getD 0)).toInt)) rfl rfl) rfl ?_
          refine s_y (v := .bool ((lkM T2 (((stepO (chkB 1 ([]) ([(Opc.mk 2 0 0 1 0 0)]) ([])) ([(Opc.mk 2 0 0 1 0 0)]) ([]) (Rec.mk true 0 0 0) ((isort true l) ++ [(Rec.mk true 0 0 0)])).getD j default).key)).isSome)) (y_extract (v := .bool ((lkM T2 (((stepO (chkB 1 ([]) ([(Opc.mk 2 0 0 1 0 0)]) ([])) ([(Opc.mk 2 0 0 1 0 0)]) ([]) (Rec.mk true 0 0 0) ((isort true l) ++ [(Rec.mk true 0 0 0)])).getD j default).key)).isSome)) rfl rfl) rfl ?_
          refine s_y (v := .int .i64 ((((lkM T2 (((stepO (chkB 1 ([]) ([(Opc.mk 2 0 0 1 0 0)]) ([])) ([(Opc.mk 2 0 0 1 0 0)]) ([]) (Rec.mk true 0 0 0) ((isort true l) ++ [(Rec.mk true 0 0 0)])).getD j default).key)).getD 0)).toInt)) (y_assign rfl) rfl ?_
          refine s_y (v := .bool ((lkM T2 (((stepO (chkB 1 ([]) ([(Opc.mk 2 0 0 1 0 0)]) ([])) ([(Opc.mk 2 0 0 1 0 0)]) ([]) (Rec.mk true 0 0 0) ((isort true l) ++ [(Rec.mk true 0 0 0)])).getD j default).key)).isSome)) (y_assign rfl) rfl ?_
          refine wpL_nil ?_
          refine thenS_n ?_
          refine wpS_seq ?_
          refine wpS_seq ?_
          refine wpS_region ?_
          refine s_y (v := .bool ((lkM T2 (((stepO (chkB 1 ([]) ([(Opc.mk 2 0 0 1 0 0)]) ([])) ([(Opc.mk 2 0 0 1 0 0)]) ([]) (Rec.mk true 0 0 0) ((isort true l) ++ [(Rec.mk true 0 0 0)])).getD j default).key)).isSome)) (y_move rfl) rfl ?_
          refine s_y (v := .bool (!((lkM T2 (((stepO (chkB 1 ([]) ([(Opc.mk 2 0 0 1 0 0)]) ([])) ([(Opc.mk 2 0 0 1 0 0)]) ([]) (Rec.mk true 0 0 0) ((isort true l) ++ [(Rec.mk true 0 0 0)])).getD j default).key)).isSome))) (y_not (b := (lkM T2 (((stepO (chkB 1 ([]) ([(Opc.mk 2 0 0 1 0 0)]) ([])) ([(Opc.mk 2 0 0 1 0 0)]) ([]) (Rec.mk true 0 0 0) ((isort true l) ++ [(Rec.mk true 0 0 0)])).getD j default).key)).isSome) rfl) rfl ?_
          refine s_y (v := .bool (!((lkM T2 (((stepO (chkB 1 ([]) ([(Opc.mk 2 0 0 1 0 0)]) ([])) ([(Opc.mk 2 0 0 1 0 0)]) ([]) (Rec.mk true 0 0 0) ((isort true l) ++ [(Rec.mk true 0 0 0)])).getD j default).key)).isSome))) (y_move rfl) rfl ?_
          refine s_gy (y_move rfl) rfl rfl rfl rfl (b' := !((lkM T2 (((stepO (chkB 1 ([]) ([(Opc.mk 2 0 0 1 0 0)]) ([])) ([(Opc.mk 2 0 0 1 0 0)]) ([]) (Rec.mk true 0 0 0) ((isort true l) ++ [(Rec.mk true 0 0 0)])).getD j default).key)).isSome)) rfl (congrArg not hat.1) ?_
          refine s_gy (y_move h5_21) rfl rfl rfl rfl (b' := !((lkM T2 (((stepO (chkB 1 ([]) ([(Opc.mk 2 0 0 1 0 0)]) ([])) ([(Opc.mk 2 0 0 1 0 0)]) ([]) (Rec.mk true 0 0 0) ((isort true l) ++ [(Rec.mk true 0 0 0)])).getD j default).key)).isSome)) rfl (congrArg not hat.1) ?_
          refine s_gy (y_move h7_21) rfl rfl rfl rfl (b' := !((lkM T2 (((stepO (chkB 1 ([]) ([(Opc.mk 2 0 0 1 0 0)]) ([])) ([(Opc.mk 2 0 0 1 0 0)]) ([]) (Rec.mk true 0 0 0) ((isort true l) ++ [(Rec.mk true 0 0 0)])).getD j default).key)).isSome)) rfl (congrArg not hat.1) ?_
          refine s_gy (y_idx (o := j * 4) rfl rfl Try.underlying69 Try.sizeOf23 (oslR (.t .h)) (fl_len recV_len _) (by decide) (by omega) (by omega) (by omega)) rfl rfl rfl rfl (b' := !((lkM T2 (((stepO (chkB 1 ([]) ([(Opc.mk 2 0 0 1 0 0)]) ([])) ([(Opc.mk 2 0 0 1 0 0)]) ([]) (Rec.mk true 0 0 0) ((isort true l) ++ [(Rec.mk true 0 0 0)])).getD j default).key)).isSome)) rfl (congrArg not hat.1) ?_
          refine s_gy (y_fieldAddr (o' := aO a_16 + j * 4 + 2) rfl Try.underlying23 rfl Try.sizeOf2 (by decide) rfl) rfl rfl rfl rfl (b' := !((lkM T2 (((stepO (chkB 1 ([]) ([(Opc.mk 2 0 0 1 0 0)]) ([])) ([(Opc.mk 2 0 0 1 0 0)]) ([]) (Rec.mk true 0 0 0) ((isort true l) ++ [(Rec.mk true 0 0 0)])).getD j default).key)).isSome)) rfl (congrArg not hat.1) ?_
          refine s_gy (y_load1 (v := .int .i64 ((((stepO (chkB 1 ([]) ([(Opc.mk 2 0 0 1 0 0)]) ([])) ([(Opc.mk 2 0 0 1 0 0)]) ([]) (Rec.mk true 0 0 0) ((isort true l) ++ [(Rec.mk true 0 0 0)])).getD j default).value).toInt)) rfl Try.isAgg2 (rd1 (k := j * 4 + 2) (oslR (.t .h)) (fl_get1 (f := 2) recV_len (stepO (chkB 1 ([]) ([(Opc.mk 2 0 0 1 0 0)]) ([])) ([(Opc.mk 2 0 0 1 0 0)]) ([]) (Rec.mk true 0 0 0) ((isort true l) ++ [(Rec.mk true 0 0 0)])) j (by first | omega | (simp only [List.length_set, List.length_take, List.length_drop]; done) | (simp only [List.length_set, List.length_take, List.length_drop]; omega)) rfl))) rfl rfl rfl rfl (b' := !((lkM T2 (((stepO (chkB 1 ([]) ([(Opc.mk 2 0 0 1 0 0)]) ([])) ([(Opc.mk 2 0 0 1 0 0)]) ([]) (Rec.mk true 0 0 0) ((isort true l) ++ [(Rec.mk true 0 0 0)])).getD j default).key)).isSome)) rfl (congrArg not hat.1) ?_
          refine s_gy (y_neq (a := (((lkM T2 (((stepO (chkB 1 ([]) ([(Opc.mk 2 0 0 1 0 0)]) ([])) ([(Opc.mk 2 0 0 1 0 0)]) ([]) (Rec.mk true 0 0 0) ((isort true l) ++ [(Rec.mk true 0 0 0)])).getD j default).key)).getD 0)).toInt) (b := (((stepO (chkB 1 ([]) ([(Opc.mk 2 0 0 1 0 0)]) ([])) ([(Opc.mk 2 0 0 1 0 0)]) ([]) (Rec.mk true 0 0 0) ((isort true l) ++ [(Rec.mk true 0 0 0)])).getD j default).value).toInt) (c := decide (((lkM T2 (((stepO (chkB 1 ([]) ([(Opc.mk 2 0 0 1 0 0)]) ([])) ([(Opc.mk 2 0 0 1 0 0)]) ([]) (Rec.mk true 0 0 0) ((isort true l) ++ [(Rec.mk true 0 0 0)])).getD j default).key)).getD 0) ≠ (((stepO (chkB 1 ([]) ([(Opc.mk 2 0 0 1 0 0)]) ([])) ([(Opc.mk 2 0 0 1 0 0)]) ([]) (Rec.mk true 0 0 0) ((isort true l) ++ [(Rec.mk true 0 0 0)])).getD j default).value))) rfl rfl (i_neq _ _)) rfl rfl rfl rfl (b' := !((lkM T2 (((stepO (chkB 1 ([]) ([(Opc.mk 2 0 0 1 0 0)]) ([])) ([(Opc.mk 2 0 0 1 0 0)]) ([]) (Rec.mk true 0 0 0) ((isort true l) ++ [(Rec.mk true 0 0 0)])).getD j default).key)).isSome)) rfl (congrArg not hat.1) ?_
          refine s_y (v := .bool (decide (((lkM T2 (((stepO (chkB 1 ([]) ([(Opc.mk 2 0 0 1 0 0)]) ([])) ([(Opc.mk 2 0 0 1 0 0)]) ([]) (Rec.mk true 0 0 0) ((isort true l) ++ [(Rec.mk true 0 0 0)])).getD j default).key)).getD 0) ≠ (((stepO (chkB 1 ([]) ([(Opc.mk 2 0 0 1 0 0)]) ([])) ([(Opc.mk 2 0 0 1 0 0)]) ([]) (Rec.mk true 0 0 0) ((isort true l) ++ [(Rec.mk true 0 0 0)])).getD j default).value)))) (y_pickF (b := !((lkM T2 (((stepO (chkB 1 ([]) ([(Opc.mk 2 0 0 1 0 0)]) ([])) ([(Opc.mk 2 0 0 1 0 0)]) ([]) (Rec.mk true 0 0 0) ((isort true l) ++ [(Rec.mk true 0 0 0)])).getD j default).key)).isSome)) (v := .bool (decide (((lkM T2 (((stepO (chkB 1 ([]) ([(Opc.mk 2 0 0 1 0 0)]) ([])) ([(Opc.mk 2 0 0 1 0 0)]) ([]) (Rec.mk true 0 0 0) ((isort true l) ++ [(Rec.mk true 0 0 0)])).getD j default).key)).getD 0) ≠ (((stepO (chkB 1 ([]) ([(Opc.mk 2 0 0 1 0 0)]) ([])) ([(Opc.mk 2 0 0 1 0 0)]) ([]) (Rec.mk true 0 0 0) ((isort true l) ++ [(Rec.mk true 0 0 0)])).getD j default).value)))) rfl (congrArg not hat.1) rfl) rfl ?_
          refine wpL_nil ?_
          refine thenS_n ?_
          refine wpS_cond_F (t := decide (((lkM T2 (((stepO (chkB 1 ([]) ([(Opc.mk 2 0 0 1 0 0)]) ([])) ([(Opc.mk 2 0 0 1 0 0)]) ([]) (Rec.mk true 0 0 0) ((isort true l) ++ [(Rec.mk true 0 0 0)])).getD j default).key)).getD 0) ≠ (((stepO (chkB 1 ([]) ([(Opc.mk 2 0 0 1 0 0)]) ([])) ([(Opc.mk 2 0 0 1 0 0)]) ([]) (Rec.mk true 0 0 0) ((isort true l) ++ [(Rec.mk true 0 0 0)])).getD j default).value))) rfl (decide_eq_false (fun h => h hat.2.1)) ?_
          refine wpS_skip ?_
          refine thenS_n ?_
          refine wpS_region ?_
          refine s_y (v := .map (some mp_2)) (y_move h3_21) rfl ?_
          refine s_y (v := .slice a_16 ((stepO (chkB 1 ([]) ([(Opc.mk 2 0 0 1 0 0)]) ([])) ([(Opc.mk 2 0 0 1 0 0)]) ([]) (Rec.mk true 0 0 0) ((isort true l) ++ [(Rec.mk true 0 0 0)])).length) c_17) (y_move h5_21) rfl ?_
          refine s_y (v := .int .i64 (((j : Nat) : Int))) (y_move h7_21) rfl ?_
          refine s_y (v := .pointer (some ⟨aB a_16, aO a_16 + j * 4, none⟩)) (y_idx (o := j * 4) rfl rfl Try.underlying69 Try.sizeOf23 (oslR (.t .h)) (fl_len recV_len _) (by decide) (by omega) (by omega) (by omega)) rfl ?_
          refine s_y (v := .pointer (some ⟨aB a_16, aO a_16 + j * 4 + 1, none⟩)) (y_fieldAddr (o' := aO a_16 + j * 4 + 1) rfl Try.underlying23 rfl Try.sizeOf2 (by decide) rfl) rfl ?_
          refine s_y (v := .int .i64 ((((stepO (chkB 1 ([]) ([(Opc.mk 2 0 0 1 0 0)]) ([])) ([(Opc.mk 2 0 0 1 0 0)]) ([]) (Rec.mk true 0 0 0) ((isort true l) ++ [(Rec.mk true 0 0 0)])).getD j default).key).toInt)) (y_load1 (v := .int .i64 ((((stepO (chkB 1 ([]) ([(Opc.mk 2 0 0 1 0 0)]) ([])) ([(Opc.mk 2 0 0 1 0 0)]) ([]) (Rec.mk true 0 0 0) ((isort true l) ++ [(Rec.mk true 0 0 0)])).getD j default).key).toInt)) rfl Try.isAgg2 (rd1 (k := j * 4 + 1) (oslR (.t .h)) (fl_get1 (f := 1) recV_len (stepO (chkB 1 ([]) ([(Opc.mk 2 0 0 1 0 0)]) ([])) ([(Opc.mk 2 0 0 1 0 0)]) ([]) (Rec.mk true 0 0 0) ((isort true l) ++ [(Rec.mk true 0 0 0)])) j (by first | omega | (simp only [List.length_set, List.length_take, List.length_drop]; done) | (simp only [List.length_set, List.length_take, List.length_drop]; omega)) rfl))) rfl ?_
          refine s_e0 ?_
          refine e_delete (l' := (dlM T2 (((stepO (chkB 1 ([]) ([(Opc.mk 2 0 0 1 0 0)]) ([])) ([(Opc.mk 2 0 0 1 0 0)]) ([]) (Rec.mk true 0 0 0) ((isort true l) ++ [(Rec.mk true 0 0 0)])).getD j default).key))) Try.underlying105 Try.underlying2 rfl rfl (.t (.t (.t (.t (.t .h))))) rfl ?_
          refine wpL_nil ?_
          refine blockS_n ?_
          refine thenS_n ?_
          refine wpS_region ?_
          refine s_y (v := .int .i64 (((j : Nat) : Int))) (y_move h7_21) rfl ?_
          refine s_y (v := .int .i64 ((((j + 1) : Nat) : Int))) (y_add (a := ((j : Nat) : Int)) (b := 1) (c := (((j + 1) : Nat) : Int)) rfl rfl (wI (by omega) (by omega) (by omega))) rfl ?_
          refine s_y (v := .int .i64 ((((j + 1) : Nat) : Int))) (y_assign rfl) rfl ?_
          refine wpL_nil ?_
          refine thenS_n ?_
          exact ⟨_, by omega, ⟨(j + 1), (dlM T2 (((stepO (chkB 1 ([]) ([(Opc.mk 2 0 0 1 0 0)]) ([])) ([(Opc.mk 2 0 0 1 0 0)]) ([]) (Rec.mk true 0 0 0) ((isort true l) ++ [(Rec.mk true 0 0 0)])).getD j default).key)), rfl, by omega, (by first | exact hat.2.2 | exact dI_dead (by assumption) (by omega) (by assumption)), rfl, h3_21, h5_21, rfl, .p (.t .h) (.p (.t .h) (.p (.t .h) (.p (.t .h) (.p (.t .h) (.p .h .nil)))))⟩⟩
      · -- decide (j < ((stepO (chkB 1 ([]) ([(Opc.mk 2 0 0 1 0 0)]) ([])) ([(Opc.mk 2 0 0 1 0 0)]) ([]) (Rec.mk true 0 0 0) ((isort true l) ++ [(Rec.mk true 0 0 0)])).length)) false
        have p22 := of_decide_eq_false b22
        refine wpS_exit ?_
        refine thenS_x ?_
        refine thenS_x ?_
        refine blockS_h ?_
        refine thenS_n ?_
        refine wpS_seq ?_
        refine wpS_region ?_
        refine s_y (v := .map (some mp_2)) (y_move h3_21) rfl ?_
        refine s_y (v := .int .i64 (((T2.length : Nat) : Int))) (y_lenM Try.underlying105 rfl (.t (.t (.t (.t (.t .h)))))) rfl ?_
        refine s_y (v := .bool (decide ((T2.length : Nat) = 0))) (y_eql (a := ((T2.length : Nat) : Int)) (b := 0) (c := decide ((T2.length : Nat) = 0)) rfl rfl (decide_eq_decide.2 (by omega))) rfl ?_
        refine s_y (v := .bool (decide ((T2.length : Nat) = 0))) (y_assign rfl) rfl ?_
        refine wpL_nil ?_
        refine thenS_n ?_
        refine wpS_ret ?_
        refine fin1 (v := .bool (decide ((T2.length : Nat) = 0))) (.inr rfl) (.nil) Try.results26 rfl ?_
        exact fun w' hs => ⟨congrArg (fun b => Ending.returned (Value.bool b)) (show (decide ((T2.length : Nat) = 0)) = true from (decide_eq_true (dI_end (by assumption) (sumX_out l).1 (by omega)))), hs⟩

end Go.Proofs.Ytldkjjnjdjfipaa
