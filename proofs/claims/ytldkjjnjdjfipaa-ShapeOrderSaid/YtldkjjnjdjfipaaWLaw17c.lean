/- ShapeCounts, walked. -/
import Derived.Test.YtldkjjnjdjfipaaWRef13
import Derived.Test.YtldkjjnjdjfipaaP17
namespace Go.Proofs.Ytldkjjnjdjfipaa
open Go Go.RowKit
set_option linter.unusedVariables false
set_option linter.unusedSimpArgs false
set_option maxRecDepth 10000
set_option maxHeartbeats 1000000

theorem right_c (p : Par) (w : World) : Pure Try.prog 206 #[.agg #[.int .i64 (p.n0), .int .i64 (p.n1), .int .i64 (p.n2), .int .i64 (p.n3)]] w (.int .i64 (bad p)) := by
  refine calls_S (n := 52) (σ0 := (upd fr0 0 (.agg #[.int .i64 (p.n0), .int .i64 (p.n1), .int .i64 (p.n2), .int .i64 (p.n3)]))) (D := []) (A := []) Try.func206 rfl Try.ntmps206 rfl (a1_fr _) (SH.start w) ?_
  refine wpS_seq ?_
  refine wpS_region ?_
  refine s_e rfl ?_
  refine e_box (v := .agg #[.int .i64 (p.n0), .int .i64 (p.n1), .int .i64 (p.n2), .int .i64 (p.n3)]) (l := [.int .i64 (p.n0), .int .i64 (p.n1), .int .i64 (p.n2), .int .i64 (p.n3)]) rfl rfl ?_
  intro b_1
  refine s_y (v := .int .i64 0) (y_assign rfl) rfl ?_
  refine wpL_nil ?_
  refine thenS_n ?_
  refine wpS_seq ?_
  refine wpS_seq ?_
  refine wpS_region ?_
  refine s_y (v := .pointer (some ⟨b_1, 0, none⟩)) (y_fieldAddr (o' := 0) rfl Try.underlying53 rfl Try.sizeOf3 (by decide) rfl) rfl ?_
  refine s_y (v := .int .i64 (p.n0)) (y_load1 rfl Try.isAgg3 (own1 .h rfl)) rfl ?_
  refine s_y (v := .bool (decide ((p.n0 : Int) < 1))) (y_lss (a := p.n0) (b := 1) rfl rfl rfl) rfl ?_
  refine s_y (v := .bool (decide ((p.n0 : Int) < 1))) (y_move rfl) rfl ?_
  rcases Bool.eq_false_or_eq_true (decide ((p.n0 : Int) < 1)) with b2 | b2
  · -- decide ((p.n0 : Int) < 1) True
    have p2 := of_decide_eq_true b2
    refine s_no rfl rfl rfl rfl (b' := decide ((p.n0 : Int) < 1)) rfl b2 ?_
    refine s_no rfl rfl rfl rfl (b' := decide ((p.n0 : Int) < 1)) rfl b2 ?_
    refine s_no rfl rfl rfl rfl (b' := decide ((p.n0 : Int) < 1)) rfl b2 ?_
    refine s_y (v := .bool true) (y_pickT (b := decide ((p.n0 : Int) < 1)) (v := .bool true) rfl b2 rfl) rfl ?_
    refine s_y (v := .bool true) (y_move rfl) rfl ?_
    refine s_no rfl rfl rfl rfl rfl rfl ?_
    refine s_no rfl rfl rfl rfl rfl rfl ?_
    refine s_no rfl rfl rfl rfl rfl rfl ?_
    refine s_y (v := .bool true) (y_pickT (v := .bool true) rfl rfl rfl) rfl ?_
    refine s_y (v := .bool true) (y_move rfl) rfl ?_
    refine s_no rfl rfl rfl rfl rfl rfl ?_
    refine s_no rfl rfl rfl rfl rfl rfl ?_
    refine s_no rfl rfl rfl rfl rfl rfl ?_
    refine s_y (v := .bool true) (y_pickT (v := .bool true) rfl rfl rfl) rfl ?_
    refine s_y (v := .bool true) (y_move rfl) rfl ?_
    refine s_no rfl rfl rfl rfl rfl rfl ?_
    refine s_no rfl rfl rfl rfl rfl rfl ?_
    refine s_no rfl rfl rfl rfl rfl rfl ?_
    refine s_y (v := .bool true) (y_pickT (v := .bool true) rfl rfl rfl) rfl ?_
    refine s_y (v := .bool true) (y_move rfl) rfl ?_
    refine s_no rfl rfl rfl rfl rfl rfl ?_
    refine s_no rfl rfl rfl rfl rfl rfl ?_
    refine s_no rfl rfl rfl rfl rfl rfl ?_
    refine s_y (v := .bool true) (y_pickT (v := .bool true) rfl rfl rfl) rfl ?_
    refine s_y (v := .bool true) (y_move rfl) rfl ?_
    refine s_no rfl rfl rfl rfl rfl rfl ?_
    refine s_no rfl rfl rfl rfl rfl rfl ?_
    refine s_no rfl rfl rfl rfl rfl rfl ?_
    refine s_y (v := .bool true) (y_pickT (v := .bool true) rfl rfl rfl) rfl ?_
    refine s_y (v := .bool true) (y_move rfl) rfl ?_
    refine s_no rfl rfl rfl rfl rfl rfl ?_
    refine s_no rfl rfl rfl rfl rfl rfl ?_
    refine s_no rfl rfl rfl rfl rfl rfl ?_
    refine s_y (v := .bool true) (y_pickT (v := .bool true) rfl rfl rfl) rfl ?_
    refine wpL_nil ?_
    refine thenS_n ?_
    refine wpS_cond_t rfl ?_
    refine wpS_seq ?_
    refine wpS_region ?_
    refine s_y (v := .int .i64 1) (y_assign rfl) rfl ?_
    refine wpL_nil ?_
    refine thenS_n ?_
    refine wpS_ret ?_
    refine thenS_r ?_
    refine fin1 (M := []) (v := .int .i64 1) (.inr rfl) (.nil) Try.results206 rfl ?_
    exact fun w' hs => ⟨congrArg (fun z : Int => Ending.returned (.int .i64 z)) (bad_1 (by omega)).symm, hs⟩
  · -- decide ((p.n0 : Int) < 1) False
    have p2 := of_decide_eq_false b2
    refine s_gy (y_fieldAddr (o' := 0) rfl Try.underlying53 rfl Try.sizeOf3 (by decide) rfl) rfl rfl rfl rfl (b' := decide ((p.n0 : Int) < 1)) rfl b2 ?_
    refine s_gy (y_load1 rfl Try.isAgg3 (own1 .h rfl)) rfl rfl rfl rfl (b' := decide ((p.n0 : Int) < 1)) rfl b2 ?_
    refine s_gy (y_gtr (a := p.n0) (b := 64) rfl rfl rfl) rfl rfl rfl rfl (b' := decide ((p.n0 : Int) < 1)) rfl b2 ?_
    refine s_y (v := .bool (decide ((64 : Int) < p.n0))) (y_pickF (b := decide ((p.n0 : Int) < 1)) (v := .bool (decide ((64 : Int) < p.n0))) rfl b2 rfl) rfl ?_
    refine s_y (v := .bool (decide ((64 : Int) < p.n0))) (y_move rfl) rfl ?_
    rcases Bool.eq_false_or_eq_true (decide ((64 : Int) < p.n0)) with b3 | b3
    · -- decide ((64 : Int) < p.n0) True
      have p3 := of_decide_eq_true b3
      refine s_no rfl rfl rfl rfl (b' := decide ((64 : Int) < p.n0)) rfl b3 ?_
      refine s_no rfl rfl rfl rfl (b' := decide ((64 : Int) < p.n0)) rfl b3 ?_
      refine s_no rfl rfl rfl rfl (b' := decide ((64 : Int) < p.n0)) rfl b3 ?_
      refine s_y (v := .bool true) (y_pickT (b := decide ((64 : Int) < p.n0)) (v := .bool true) rfl b3 rfl) rfl ?_
      refine s_y (v := .bool true) (y_move rfl) rfl ?_
      refine s_no rfl rfl rfl rfl rfl rfl ?_
      refine s_no rfl rfl rfl rfl rfl rfl ?_
      refine s_no rfl rfl rfl rfl rfl rfl ?_
      refine s_y (v := .bool true) (y_pickT (v := .bool true) rfl rfl rfl) rfl ?_
      refine s_y (v := .bool true) (y_move rfl) rfl ?_
      refine s_no rfl rfl rfl rfl rfl rfl ?_
      refine s_no rfl rfl rfl rfl rfl rfl ?_
      refine s_no rfl rfl rfl rfl rfl rfl ?_
      refine s_y (v := .bool true) (y_pickT (v := .bool true) rfl rfl rfl) rfl ?_
      refine s_y (v := .bool true) (y_move rfl) rfl ?_
      refine s_no rfl rfl rfl rfl rfl rfl ?_
      refine s_no rfl rfl rfl rfl rfl rfl ?_
      refine s_no rfl rfl rfl rfl rfl rfl ?_
      refine s_y (v := .bool true) (y_pickT (v := .bool true) rfl rfl rfl) rfl ?_
      refine s_y (v := .bool true) (y_move rfl) rfl ?_
      refine s_no rfl rfl rfl rfl rfl rfl ?_
      refine s_no rfl rfl rfl rfl rfl rfl ?_
      refine s_no rfl rfl rfl rfl rfl rfl ?_
      refine s_y (v := .bool true) (y_pickT (v := .bool true) rfl rfl rfl) rfl ?_
      refine s_y (v := .bool true) (y_move rfl) rfl ?_
      refine s_no rfl rfl rfl rfl rfl rfl ?_
      refine s_no rfl rfl rfl rfl rfl rfl ?_
      refine s_no rfl rfl rfl rfl rfl rfl ?_
      refine s_y (v := .bool true) (y_pickT (v := .bool true) rfl rfl rfl) rfl ?_
      refine wpL_nil ?_
      refine thenS_n ?_
      refine wpS_cond_t rfl ?_
      refine wpS_seq ?_
      refine wpS_region ?_
      refine s_y (v := .int .i64 1) (y_assign rfl) rfl ?_
      refine wpL_nil ?_
      refine thenS_n ?_
      refine wpS_ret ?_
      refine thenS_r ?_
      refine fin1 (M := []) (v := .int .i64 1) (.inr rfl) (.nil) Try.results206 rfl ?_
      exact fun w' hs => ⟨congrArg (fun z : Int => Ending.returned (.int .i64 z)) (bad_1 (by omega)).symm, hs⟩
    · -- decide ((64 : Int) < p.n0) False
      have p3 := of_decide_eq_false b3
      refine s_gy (y_fieldAddr (o' := 1) rfl Try.underlying53 rfl Try.sizeOf3 (by decide) rfl) rfl rfl rfl rfl (b' := decide ((64 : Int) < p.n0)) rfl b3 ?_
      refine s_gy (y_load1 rfl Try.isAgg3 (own1 .h rfl)) rfl rfl rfl rfl (b' := decide ((64 : Int) < p.n0)) rfl b3 ?_
      refine s_gy (y_lss (a := p.n1) (b := 1) rfl rfl rfl) rfl rfl rfl rfl (b' := decide ((64 : Int) < p.n0)) rfl b3 ?_
      refine s_y (v := .bool (decide ((p.n1 : Int) < 1))) (y_pickF (b := decide ((64 : Int) < p.n0)) (v := .bool (decide ((p.n1 : Int) < 1))) rfl b3 rfl) rfl ?_
      refine s_y (v := .bool (decide ((p.n1 : Int) < 1))) (y_move rfl) rfl ?_
      rcases Bool.eq_false_or_eq_true (decide ((p.n1 : Int) < 1)) with b4 | b4
      · -- decide ((p.n1 : Int) < 1) True
        have p4 := of_decide_eq_true b4
        refine s_no rfl rfl rfl rfl (b' := decide ((p.n1 : Int) < 1)) rfl b4 ?_
        refine s_no rfl rfl rfl rfl (b' := decide ((p.n1 : Int) < 1)) rfl b4 ?_
        refine s_no rfl rfl rfl rfl (b' := decide ((p.n1 : Int) < 1)) rfl b4 ?_
        refine s_y (v := .bool true) (y_pickT (b := decide ((p.n1 : Int) < 1)) (v := .bool true) rfl b4 rfl) rfl ?_
        refine s_y (v := .bool true) (y_move rfl) rfl ?_
        refine s_no rfl rfl rfl rfl rfl rfl ?_
        refine s_no rfl rfl rfl rfl rfl rfl ?_
        refine s_no rfl rfl rfl rfl rfl rfl ?_
        refine s_y (v := .bool true) (y_pickT (v := .bool true) rfl rfl rfl) rfl ?_
        refine s_y (v := .bool true) (y_move rfl) rfl ?_
        refine s_no rfl rfl rfl rfl rfl rfl ?_
        refine s_no rfl rfl rfl rfl rfl rfl ?_
        refine s_no rfl rfl rfl rfl rfl rfl ?_
        refine s_y (v := .bool true) (y_pickT (v := .bool true) rfl rfl rfl) rfl ?_
        refine s_y (v := .bool true) (y_move rfl) rfl ?_
        refine s_no rfl rfl rfl rfl rfl rfl ?_
        refine s_no rfl rfl rfl rfl rfl rfl ?_
        refine s_no rfl rfl rfl rfl rfl rfl ?_
        refine s_y (v := .bool true) (y_pickT (v := .bool true) rfl rfl rfl) rfl ?_
        refine s_y (v := .bool true) (y_move rfl) rfl ?_
        refine s_no rfl rfl rfl rfl rfl rfl ?_
        refine s_no rfl rfl rfl rfl rfl rfl ?_
        refine s_no rfl rfl rfl rfl rfl rfl ?_
        refine s_y (v := .bool true) (y_pickT (v := .bool true) rfl rfl rfl) rfl ?_
        refine wpL_nil ?_
        refine thenS_n ?_
        refine wpS_cond_t rfl ?_
        refine wpS_seq ?_
        refine wpS_region ?_
        refine s_y (v := .int .i64 1) (y_assign rfl) rfl ?_
        refine wpL_nil ?_
        refine thenS_n ?_
        refine wpS_ret ?_
        refine thenS_r ?_
        refine fin1 (M := []) (v := .int .i64 1) (.inr rfl) (.nil) Try.results206 rfl ?_
        exact fun w' hs => ⟨congrArg (fun z : Int => Ending.returned (.int .i64 z)) (bad_1 (by omega)).symm, hs⟩
      · -- decide ((p.n1 : Int) < 1) False
        have p4 := of_decide_eq_false b4
        refine s_gy (y_fieldAddr (o' := 1) rfl Try.underlying53 rfl Try.sizeOf3 (by decide) rfl) rfl rfl rfl rfl (b' := decide ((p.n1 : Int) < 1)) rfl b4 ?_
        refine s_gy (y_load1 rfl Try.isAgg3 (own1 .h rfl)) rfl rfl rfl rfl (b' := decide ((p.n1 : Int) < 1)) rfl b4 ?_
        refine s_gy (y_gtr (a := p.n1) (b := 4) rfl rfl rfl) rfl rfl rfl rfl (b' := decide ((p.n1 : Int) < 1)) rfl b4 ?_
        refine s_y (v := .bool (decide ((4 : Int) < p.n1))) (y_pickF (b := decide ((p.n1 : Int) < 1)) (v := .bool (decide ((4 : Int) < p.n1))) rfl b4 rfl) rfl ?_
        refine s_y (v := .bool (decide ((4 : Int) < p.n1))) (y_move rfl) rfl ?_
        rcases Bool.eq_false_or_eq_true (decide ((4 : Int) < p.n1)) with b5 | b5
        · -- decide ((4 : Int) < p.n1) True
          have p5 := of_decide_eq_true b5
          refine s_no rfl rfl rfl rfl (b' := decide ((4 : Int) < p.n1)) rfl b5 ?_
          refine s_no rfl rfl rfl rfl (b' := decide ((4 : Int) < p.n1)) rfl b5 ?_
          refine s_no rfl rfl rfl rfl (b' := decide ((4 : Int) < p.n1)) rfl b5 ?_
          refine s_y (v := .bool true) (y_pickT (b := decide ((4 : Int) < p.n1)) (v := .bool true) rfl b5 rfl) rfl ?_
          refine s_y (v := .bool true) (y_move rfl) rfl ?_
          refine s_no rfl rfl rfl rfl rfl rfl ?_
          refine s_no rfl rfl rfl rfl rfl rfl ?_
          refine s_no rfl rfl rfl rfl rfl rfl ?_
          refine s_y (v := .bool true) (y_pickT (v := .bool true) rfl rfl rfl) rfl ?_
          refine s_y (v := .bool true) (y_move rfl) rfl ?_
          refine s_no rfl rfl rfl rfl rfl rfl ?_
          refine s_no rfl rfl rfl rfl rfl rfl ?_
          refine s_no rfl rfl rfl rfl rfl rfl ?_
          refine s_y (v := .bool true) (y_pickT (v := .bool true) rfl rfl rfl) rfl ?_
          refine s_y (v := .bool true) (y_move rfl) rfl ?_
          refine s_no rfl rfl rfl rfl rfl rfl ?_
          refine s_no rfl rfl rfl rfl rfl rfl ?_
          refine s_no rfl rfl rfl rfl rfl rfl ?_
          refine s_y (v := .bool true) (y_pickT (v := .bool true) rfl rfl rfl) rfl ?_
          refine wpL_nil ?_
          refine thenS_n ?_
          refine wpS_cond_t rfl ?_
          refine wpS_seq ?_
          refine wpS_region ?_
          refine s_y (v := .int .i64 1) (y_assign rfl) rfl ?_
          refine wpL_nil ?_
          refine thenS_n ?_
          refine wpS_ret ?_
          refine thenS_r ?_
          refine fin1 (M := []) (v := .int .i64 1) (.inr rfl) (.nil) Try.results206 rfl ?_
          exact fun w' hs => ⟨congrArg (fun z : Int => Ending.returned (.int .i64 z)) (bad_1 (by omega)).symm, hs⟩
        · -- decide ((4 : Int) < p.n1) False
          have p5 := of_decide_eq_false b5
          refine s_gy (y_fieldAddr (o' := 2) rfl Try.underlying53 rfl Try.sizeOf3 (by decide) rfl) rfl rfl rfl rfl (b' := decide ((4 : Int) < p.n1)) rfl b5 ?_
          refine s_gy (y_load1 rfl Try.isAgg3 (own1 .h rfl)) rfl rfl rfl rfl (b' := decide ((4 : Int) < p.n1)) rfl b5 ?_
          refine s_gy (y_lss (a := p.n2) (b := 1) rfl rfl rfl) rfl rfl rfl rfl (b' := decide ((4 : Int) < p.n1)) rfl b5 ?_
          refine s_y (v := .bool (decide ((p.n2 : Int) < 1))) (y_pickF (b := decide ((4 : Int) < p.n1)) (v := .bool (decide ((p.n2 : Int) < 1))) rfl b5 rfl) rfl ?_
          refine s_y (v := .bool (decide ((p.n2 : Int) < 1))) (y_move rfl) rfl ?_
          rcases Bool.eq_false_or_eq_true (decide ((p.n2 : Int) < 1)) with b6 | b6
          · -- decide ((p.n2 : Int) < 1) True
            have p6 := of_decide_eq_true b6
            refine s_no rfl rfl rfl rfl (b' := decide ((p.n2 : Int) < 1)) rfl b6 ?_
            refine s_no rfl rfl rfl rfl (b' := decide ((p.n2 : Int) < 1)) rfl b6 ?_
            refine s_no rfl rfl rfl rfl (b' := decide ((p.n2 : Int) < 1)) rfl b6 ?_
            refine s_y (v := .bool true) (y_pickT (b := decide ((p.n2 : Int) < 1)) (v := .bool true) rfl b6 rfl) rfl ?_
            refine s_y (v := .bool true) (y_move rfl) rfl ?_
            refine s_no rfl rfl rfl rfl rfl rfl ?_
            refine s_no rfl rfl rfl rfl rfl rfl ?_
            refine s_no rfl rfl rfl rfl rfl rfl ?_
            refine s_y (v := .bool true) (y_pickT (v := .bool true) rfl rfl rfl) rfl ?_
            refine s_y (v := .bool true) (y_move rfl) rfl ?_
            refine s_no rfl rfl rfl rfl rfl rfl ?_
            refine s_no rfl rfl rfl rfl rfl rfl ?_
            refine s_no rfl rfl rfl rfl rfl rfl ?_
            refine s_y (v := .bool true) (y_pickT (v := .bool true) rfl rfl rfl) rfl ?_
            refine wpL_nil ?_
            refine thenS_n ?_
            refine wpS_cond_t rfl ?_
            refine wpS_seq ?_
            refine wpS_region ?_
            refine s_y (v := .int .i64 1) (y_assign rfl) rfl ?_
            refine wpL_nil ?_
            refine thenS_n ?_
            refine wpS_ret ?_
            refine thenS_r ?_
            refine fin1 (M := []) (v := .int .i64 1) (.inr rfl) (.nil) Try.results206 rfl ?_
            exact fun w' hs => ⟨congrArg (fun z : Int => Ending.returned (.int .i64 z)) (bad_1 (by omega)).symm, hs⟩
          · -- decide ((p.n2 : Int) < 1) False
            have p6 := of_decide_eq_false b6
            refine s_gy (y_fieldAddr (o' := 2) rfl Try.underlying53 rfl Try.sizeOf3 (by decide) rfl) rfl rfl rfl rfl (b' := decide ((p.n2 : Int) < 1)) rfl b6 ?_
            refine s_gy (y_load1 rfl Try.isAgg3 (own1 .h rfl)) rfl rfl rfl rfl (b' := decide ((p.n2 : Int) < 1)) rfl b6 ?_
            refine s_gy (y_gtr (a := p.n2) (b := 8) rfl rfl rfl) rfl rfl rfl rfl (b' := decide ((p.n2 : Int) < 1)) rfl b6 ?_
            refine s_y (v := .bool (decide ((8 : Int) < p.n2))) (y_pickF (b := decide ((p.n2 : Int) < 1)) (v := .bool (decide ((8 : Int) < p.n2))) rfl b6 rfl) rfl ?_
            refine s_y (v := .bool (decide ((8 : Int) < p.n2))) (y_move rfl) rfl ?_
            rcases Bool.eq_false_or_eq_true (decide ((8 : Int) < p.n2)) with b7 | b7
            · -- decide ((8 : Int) < p.n2) True
              have p7 := of_decide_eq_true b7
              refine s_no rfl rfl rfl rfl (b' := decide ((8 : Int) < p.n2)) rfl b7 ?_
              refine s_no rfl rfl rfl rfl (b' := decide ((8 : Int) < p.n2)) rfl b7 ?_
              refine s_no rfl rfl rfl rfl (b' := decide ((8 : Int) < p.n2)) rfl b7 ?_
              refine s_y (v := .bool true) (y_pickT (b := decide ((8 : Int) < p.n2)) (v := .bool true) rfl b7 rfl) rfl ?_
              refine s_y (v := .bool true) (y_move rfl) rfl ?_
              refine s_no rfl rfl rfl rfl rfl rfl ?_
              refine s_no rfl rfl rfl rfl rfl rfl ?_
              refine s_no rfl rfl rfl rfl rfl rfl ?_
              refine s_y (v := .bool true) (y_pickT (v := .bool true) rfl rfl rfl) rfl ?_
              refine wpL_nil ?_
              refine thenS_n ?_
              refine wpS_cond_t rfl ?_
              refine wpS_seq ?_
              refine wpS_region ?_
              refine s_y (v := .int .i64 1) (y_assign rfl) rfl ?_
              refine wpL_nil ?_
              refine thenS_n ?_
              refine wpS_ret ?_
              refine thenS_r ?_
              refine fin1 (M := []) (v := .int .i64 1) (.inr rfl) (.nil) Try.results206 rfl ?_
              exact fun w' hs => ⟨congrArg (fun z : Int => Ending.returned (.int .i64 z)) (bad_1 (by omega)).symm, hs⟩
            · -- decide ((8 : Int) < p.n2) False
              have p7 := of_decide_eq_false b7
              refine s_gy (y_fieldAddr (o' := 3) rfl Try.underlying53 rfl Try.sizeOf3 (by decide) rfl) rfl rfl rfl rfl (b' := decide ((8 : Int) < p.n2)) rfl b7 ?_
              refine s_gy (y_load1 rfl Try.isAgg3 (own1 .h rfl)) rfl rfl rfl rfl (b' := decide ((8 : Int) < p.n2)) rfl b7 ?_
              refine s_gy (y_lss (a := p.n3) (b := 1) rfl rfl rfl) rfl rfl rfl rfl (b' := decide ((8 : Int) < p.n2)) rfl b7 ?_
              refine s_y (v := .bool (decide ((p.n3 : Int) < 1))) (y_pickF (b := decide ((8 : Int) < p.n2)) (v := .bool (decide ((p.n3 : Int) < 1))) rfl b7 rfl) rfl ?_
              refine s_y (v := .bool (decide ((p.n3 : Int) < 1))) (y_move rfl) rfl ?_
              rcases Bool.eq_false_or_eq_true (decide ((p.n3 : Int) < 1)) with b8 | b8
              · -- decide ((p.n3 : Int) < 1) True
                have p8 := of_decide_eq_true b8
                refine s_no rfl rfl rfl rfl (b' := decide ((p.n3 : Int) < 1)) rfl b8 ?_
                refine s_no rfl rfl rfl rfl (b' := decide ((p.n3 : Int) < 1)) rfl b8 ?_
                refine s_no rfl rfl rfl rfl (b' := decide ((p.n3 : Int) < 1)) rfl b8 ?_
                refine s_y (v := .bool true) (y_pickT (b := decide ((p.n3 : Int) < 1)) (v := .bool true) rfl b8 rfl) rfl ?_
                refine wpL_nil ?_
                refine thenS_n ?_
                refine wpS_cond_t rfl ?_
                refine wpS_seq ?_
                refine wpS_region ?_
                refine s_y (v := .int .i64 1) (y_assign rfl) rfl ?_
                refine wpL_nil ?_
                refine thenS_n ?_
                refine wpS_ret ?_
                refine thenS_r ?_
                refine fin1 (M := []) (v := .int .i64 1) (.inr rfl) (.nil) Try.results206 rfl ?_
                exact fun w' hs => ⟨congrArg (fun z : Int => Ending.returned (.int .i64 z)) (bad_1 (by omega)).symm, hs⟩
              · -- decide ((p.n3 : Int) < 1) False
                have p8 := of_decide_eq_false b8
                refine s_gy (y_fieldAddr (o' := 3) rfl Try.underlying53 rfl Try.sizeOf3 (by decide) rfl) rfl rfl rfl rfl (b' := decide ((p.n3 : Int) < 1)) rfl b8 ?_
                refine s_gy (y_load1 rfl Try.isAgg3 (own1 .h rfl)) rfl rfl rfl rfl (b' := decide ((p.n3 : Int) < 1)) rfl b8 ?_
                refine s_gy (y_gtr (a := p.n3) (b := 4) rfl rfl rfl) rfl rfl rfl rfl (b' := decide ((p.n3 : Int) < 1)) rfl b8 ?_
                refine s_y (v := .bool (decide ((4 : Int) < p.n3))) (y_pickF (b := decide ((p.n3 : Int) < 1)) (v := .bool (decide ((4 : Int) < p.n3))) rfl b8 rfl) rfl ?_
                refine wpL_nil ?_
                refine thenS_n ?_
                refine wpS_cond (t := decide ((4 : Int) < p.n3)) rfl (fun b9 => ?_) (fun b9 => ?_)
                · -- decide ((4 : Int) < p.n3) true
                  have p9 := of_decide_eq_true b9
                  refine wpS_seq ?_
                  refine wpS_region ?_
                  refine s_y (v := .int .i64 1) (y_assign rfl) rfl ?_
                  refine wpL_nil ?_
                  refine thenS_n ?_
                  refine wpS_ret ?_
                  refine thenS_r ?_
                  refine fin1 (M := []) (v := .int .i64 1) (.inr rfl) (.nil) Try.results206 rfl ?_
                  exact fun w' hs => ⟨congrArg (fun z : Int => Ending.returned (.int .i64 z)) (bad_1 (by omega)).symm, hs⟩
                · -- decide ((4 : Int) < p.n3) false
                  have p9 := of_decide_eq_false b9
                  refine wpS_skip ?_
                  refine thenS_n ?_
                  refine wpS_seq ?_
                  refine wpS_seq ?_
                  refine wpS_lex (by kernel_rfl) (by kernel_rfl) ?_
                  refine x_y (v := .pointer (some ⟨b_1, 1, none⟩)) (y_fieldAddr (o' := 1) rfl Try.underlying53 rfl Try.sizeOf3 (by decide) rfl) rfl ?_
                  refine x_y (v := .int .i64 (p.n1)) (y_load1 rfl Try.isAgg3 (own1 .h rfl)) rfl ?_
                  refine x_y (v := .pointer (some ⟨b_1, 0, none⟩)) (y_fieldAddr (o' := 0) rfl Try.underlying53 rfl Try.sizeOf3 (by decide) rfl) rfl ?_
                  refine x_y (v := .int .i64 (p.n0)) (y_load1 rfl Try.isAgg3 (own1 .h rfl)) rfl ?_
                  refine x_y (v := .int .i64 (p.n0 - 1)) (y_sub (a := p.n0) (b := 1) (c := p.n0 - 1) rfl rfl (wI rfl (by omega) (by omega))) rfl ?_
                  refine x_y (v := .pointer (some ⟨b_1, 2, none⟩)) (y_fieldAddr (o' := 2) rfl Try.underlying53 rfl Try.sizeOf3 (by decide) rfl) rfl ?_
                  refine x_y (v := .int .i64 (p.n2)) (y_load1 rfl Try.isAgg3 (own1 .h rfl)) rfl ?_
                  have hq := q_bd (a := p.n0) (b := p.n2) (by omega) (by omega) (by omega)
                  refine x_y (v := .int .i64 ((p.n0 - 1) / p.n2)) (y_quo (a := p.n0 - 1) (b := p.n2) (c := (p.n0 - 1) / p.n2) rfl rfl (by omega) (q_wrap (by omega) (by omega) (by omega))) rfl ?_
                  have hc := cdv_bd (a := p.n0) (b := p.n2) (by omega) (by omega) (by omega)
                  refine x_y (v := .int .i64 (cdv p.n0 p.n2)) (y_add (a := (p.n0 - 1) / p.n2) (b := 1) (c := cdv p.n0 p.n2) rfl rfl (wI rfl (by omega) (by omega))) rfl ?_
                  have hnb := nb_bd (a := p.n1) (c := cdv p.n0 p.n2) (by omega) (by omega) (by omega) (by omega)
                  refine x_y (v := .int .i64 (p.n1 * cdv p.n0 p.n2)) (y_mul (a := p.n1) (b := cdv p.n0 p.n2) (c := p.n1 * cdv p.n0 p.n2) rfl rfl (nb_wrap (by omega) (by omega) (by omega) (by omega))) rfl ?_
                  refine x_y (v := .bool (decide ((32 : Int) ≤ (p.n1 * cdv p.n0 p.n2)))) (y_geq (a := p.n1 * cdv p.n0 p.n2) (b := 32) rfl rfl rfl) rfl ?_
                  refine x_nil ?_
                  refine thenS_n ?_
                  refine wpS_cond (t := decide ((32 : Int) ≤ (p.n1 * cdv p.n0 p.n2))) rfl (fun b10 => ?_) (fun b10 => ?_)
                  · -- decide ((32 : Int) ≤ (p.n1 * cdv p.n0 p.n2)) true
                    have p10 := of_decide_eq_true b10
                    refine wpS_seq ?_
                    refine wpS_region ?_
                    refine s_y (v := .int .i64 1) (y_assign rfl) rfl ?_
                    refine wpL_nil ?_
                    refine thenS_n ?_
                    refine wpS_ret ?_
                    refine thenS_r ?_
                    refine fin1 (M := []) (v := .int .i64 1) (.inr rfl) (.nil) Try.results206 rfl ?_
                    exact fun w' hs => ⟨congrArg (fun z : Int => Ending.returned (.int .i64 z)) (bad_1 (by omega)).symm, hs⟩
                  · -- decide ((32 : Int) ≤ (p.n1 * cdv p.n0 p.n2)) false
                    have p10 := of_decide_eq_false b10
                    refine wpS_skip ?_
                    refine thenS_n ?_
                    refine wpS_seq ?_
                    refine wpS_region ?_
                    refine s_y (v := .int .i64 0) (y_assign rfl) rfl ?_
                    refine wpL_nil ?_
                    refine thenS_n ?_
                    refine wpS_ret ?_
                    refine fin1 (M := []) (v := .int .i64 0) (.inr rfl) (.nil) Try.results206 rfl ?_
                    exact fun w' hs => ⟨congrArg (fun z : Int => Ending.returned (.int .i64 z)) (bad_0 (by omega)).symm, hs⟩

theorem rright_c (p : Par) (w : World) : Pure Try.prog 101 #[.agg #[.int .i64 (p.n0), .int .i64 (p.n1), .int .i64 (p.n2), .int .i64 (p.n3)]] w (.int .i64 (bad p)) := by
  refine calls_S (n := 56) (σ0 := (upd fr0 0 (.agg #[.int .i64 (p.n0), .int .i64 (p.n1), .int .i64 (p.n2), .int .i64 (p.n3)]))) (D := []) (A := []) Try.func101 rfl Try.ntmps101 rfl (a1_fr _) (SH.start w) ?_
  refine wpS_seq ?_
  refine wpS_region ?_
  refine s_e rfl ?_
  refine e_box (v := .agg #[.int .i64 (p.n0), .int .i64 (p.n1), .int .i64 (p.n2), .int .i64 (p.n3)]) (l := [.int .i64 (p.n0), .int .i64 (p.n1), .int .i64 (p.n2), .int .i64 (p.n3)]) rfl rfl ?_
  intro b_1
  refine s_y (v := .int .i64 0) (y_assign rfl) rfl ?_
  refine wpL_nil ?_
  refine thenS_n ?_
  refine wpS_seq ?_
  refine wpS_seq ?_
  refine wpS_lex (by kernel_rfl) (by kernel_rfl) ?_
  refine x_y (v := .pointer (some ⟨b_1, 0, none⟩)) (y_fieldAddr (o' := 0) rfl Try.underlying53 rfl Try.sizeOf3 (by decide) rfl) rfl ?_
  refine x_y (v := .int .i64 (p.n0)) (y_load1 rfl Try.isAgg3 (own1 .h rfl)) rfl ?_
  refine x_y (v := .bool (decide ((p.n0 : Int) < 1))) (y_lss (a := p.n0) (b := 1) rfl rfl rfl) rfl ?_
  refine x_y (v := .bool (decide ((p.n0 : Int) < 1))) (y_move rfl) rfl ?_
  rcases Bool.eq_false_or_eq_true (decide ((p.n0 : Int) < 1)) with b2 | b2
  · -- decide ((p.n0 : Int) < 1) True
    have p2 := of_decide_eq_true b2
    refine x_no rfl rfl rfl rfl (b' := decide ((p.n0 : Int) < 1)) rfl b2 ?_
    refine x_no rfl rfl rfl rfl (b' := decide ((p.n0 : Int) < 1)) rfl b2 ?_
    refine x_no rfl rfl rfl rfl (b' := decide ((p.n0 : Int) < 1)) rfl b2 ?_
    refine x_y (v := .bool true) (y_pickT (b := decide ((p.n0 : Int) < 1)) (v := .bool true) rfl b2 rfl) rfl ?_
    refine x_y (v := .bool true) (y_move rfl) rfl ?_
    refine x_no rfl rfl rfl rfl rfl rfl ?_
    refine x_no rfl rfl rfl rfl rfl rfl ?_
    refine x_no rfl rfl rfl rfl rfl rfl ?_
    refine x_y (v := .bool true) (y_pickT (v := .bool true) rfl rfl rfl) rfl ?_
    refine x_y (v := .bool true) (y_move rfl) rfl ?_
    refine x_no rfl rfl rfl rfl rfl rfl ?_
    refine x_no rfl rfl rfl rfl rfl rfl ?_
    refine x_no rfl rfl rfl rfl rfl rfl ?_
    refine x_y (v := .bool true) (y_pickT (v := .bool true) rfl rfl rfl) rfl ?_
    refine x_y (v := .bool true) (y_move rfl) rfl ?_
    refine x_no rfl rfl rfl rfl rfl rfl ?_
    refine x_no rfl rfl rfl rfl rfl rfl ?_
    refine x_no rfl rfl rfl rfl rfl rfl ?_
    refine x_y (v := .bool true) (y_pickT (v := .bool true) rfl rfl rfl) rfl ?_
    refine x_y (v := .bool true) (y_move rfl) rfl ?_
    refine x_no rfl rfl rfl rfl rfl rfl ?_
    refine x_no rfl rfl rfl rfl rfl rfl ?_
    refine x_no rfl rfl rfl rfl rfl rfl ?_
    refine x_y (v := .bool true) (y_pickT (v := .bool true) rfl rfl rfl) rfl ?_
    refine x_y (v := .bool true) (y_move rfl) rfl ?_
    refine x_no rfl rfl rfl rfl rfl rfl ?_
    refine x_no rfl rfl rfl rfl rfl rfl ?_
    refine x_no rfl rfl rfl rfl rfl rfl ?_
    refine x_y (v := .bool true) (y_pickT (v := .bool true) rfl rfl rfl) rfl ?_
    refine x_y (v := .bool true) (y_move rfl) rfl ?_
    refine x_no rfl rfl rfl rfl rfl rfl ?_
    refine x_no rfl rfl rfl rfl rfl rfl ?_
    refine x_no rfl rfl rfl rfl rfl rfl ?_
    refine x_y (v := .bool true) (y_pickT (v := .bool true) rfl rfl rfl) rfl ?_
    refine x_y (v := .bool true) (y_move rfl) rfl ?_
    refine x_no rfl rfl rfl rfl rfl rfl ?_
    refine x_no rfl rfl rfl rfl rfl rfl ?_
    refine x_no rfl rfl rfl rfl rfl rfl ?_
    refine x_no rfl rfl rfl rfl rfl rfl ?_
    refine x_no rfl rfl rfl rfl rfl rfl ?_
    refine x_no rfl rfl rfl rfl rfl rfl ?_
    refine x_no rfl rfl rfl rfl rfl rfl ?_
    refine x_no rfl rfl rfl rfl rfl rfl ?_
    refine x_no rfl rfl rfl rfl rfl rfl ?_
    refine x_no rfl rfl rfl rfl rfl rfl ?_
    refine x_no rfl rfl rfl rfl rfl rfl ?_
    refine x_no rfl rfl rfl rfl rfl rfl ?_
    refine x_no rfl rfl rfl rfl rfl rfl ?_
    refine x_y (v := .bool true) (y_pickT (v := .bool true) rfl rfl rfl) rfl ?_
    refine x_nil ?_
    refine thenS_n ?_
    refine wpS_cond_t rfl ?_
    refine wpS_seq ?_
    refine wpS_region ?_
    refine s_y (v := .int .i64 1) (y_assign rfl) rfl ?_
    refine wpL_nil ?_
    refine thenS_n ?_
    refine wpS_ret ?_
    refine thenS_r ?_
    refine fin1 (M := []) (v := .int .i64 1) (.inr rfl) (.nil) Try.results101 rfl ?_
    exact fun w' hs => ⟨congrArg (fun z : Int => Ending.returned (.int .i64 z)) (bad_1 (by omega)).symm, hs⟩
  · -- decide ((p.n0 : Int) < 1) False
    have p2 := of_decide_eq_false b2
    refine x_gy (y_fieldAddr (o' := 0) rfl Try.underlying53 rfl Try.sizeOf3 (by decide) rfl) rfl rfl rfl rfl (b' := decide ((p.n0 : Int) < 1)) rfl b2 ?_
    refine x_gy (y_load1 rfl Try.isAgg3 (own1 .h rfl)) rfl rfl rfl rfl (b' := decide ((p.n0 : Int) < 1)) rfl b2 ?_
    refine x_gy (y_gtr (a := p.n0) (b := 64) rfl rfl rfl) rfl rfl rfl rfl (b' := decide ((p.n0 : Int) < 1)) rfl b2 ?_
    refine x_y (v := .bool (decide ((64 : Int) < p.n0))) (y_pickF (b := decide ((p.n0 : Int) < 1)) (v := .bool (decide ((64 : Int) < p.n0))) rfl b2 rfl) rfl ?_
    refine x_y (v := .bool (decide ((64 : Int) < p.n0))) (y_move rfl) rfl ?_
    rcases Bool.eq_false_or_eq_true (decide ((64 : Int) < p.n0)) with b3 | b3
    · -- decide ((64 : Int) < p.n0) True
      have p3 := of_decide_eq_true b3
      refine x_no rfl rfl rfl rfl (b' := decide ((64 : Int) < p.n0)) rfl b3 ?_
      refine x_no rfl rfl rfl rfl (b' := decide ((64 : Int) < p.n0)) rfl b3 ?_
      refine x_no rfl rfl rfl rfl (b' := decide ((64 : Int) < p.n0)) rfl b3 ?_
      refine x_y (v := .bool true) (y_pickT (b := decide ((64 : Int) < p.n0)) (v := .bool true) rfl b3 rfl) rfl ?_
      refine x_y (v := .bool true) (y_move rfl) rfl ?_
      refine x_no rfl rfl rfl rfl rfl rfl ?_
      refine x_no rfl rfl rfl rfl rfl rfl ?_
      refine x_no rfl rfl rfl rfl rfl rfl ?_
      refine x_y (v := .bool true) (y_pickT (v := .bool true) rfl rfl rfl) rfl ?_
      refine x_y (v := .bool true) (y_move rfl) rfl ?_
      refine x_no rfl rfl rfl rfl rfl rfl ?_
      refine x_no rfl rfl rfl rfl rfl rfl ?_
      refine x_no rfl rfl rfl rfl rfl rfl ?_
      refine x_y (v := .bool true) (y_pickT (v := .bool true) rfl rfl rfl) rfl ?_
      refine x_y (v := .bool true) (y_move rfl) rfl ?_
      refine x_no rfl rfl rfl rfl rfl rfl ?_
      refine x_no rfl rfl rfl rfl rfl rfl ?_
      refine x_no rfl rfl rfl rfl rfl rfl ?_
      refine x_y (v := .bool true) (y_pickT (v := .bool true) rfl rfl rfl) rfl ?_
      refine x_y (v := .bool true) (y_move rfl) rfl ?_
      refine x_no rfl rfl rfl rfl rfl rfl ?_
      refine x_no rfl rfl rfl rfl rfl rfl ?_
      refine x_no rfl rfl rfl rfl rfl rfl ?_
      refine x_y (v := .bool true) (y_pickT (v := .bool true) rfl rfl rfl) rfl ?_
      refine x_y (v := .bool true) (y_move rfl) rfl ?_
      refine x_no rfl rfl rfl rfl rfl rfl ?_
      refine x_no rfl rfl rfl rfl rfl rfl ?_
      refine x_no rfl rfl rfl rfl rfl rfl ?_
      refine x_y (v := .bool true) (y_pickT (v := .bool true) rfl rfl rfl) rfl ?_
      refine x_y (v := .bool true) (y_move rfl) rfl ?_
      refine x_no rfl rfl rfl rfl rfl rfl ?_
      refine x_no rfl rfl rfl rfl rfl rfl ?_
      refine x_no rfl rfl rfl rfl rfl rfl ?_
      refine x_no rfl rfl rfl rfl rfl rfl ?_
      refine x_no rfl rfl rfl rfl rfl rfl ?_
      refine x_no rfl rfl rfl rfl rfl rfl ?_
      refine x_no rfl rfl rfl rfl rfl rfl ?_
      refine x_no rfl rfl rfl rfl rfl rfl ?_
      refine x_no rfl rfl rfl rfl rfl rfl ?_
      refine x_no rfl rfl rfl rfl rfl rfl ?_
      refine x_no rfl rfl rfl rfl rfl rfl ?_
      refine x_no rfl rfl rfl rfl rfl rfl ?_
      refine x_no rfl rfl rfl rfl rfl rfl ?_
      refine x_y (v := .bool true) (y_pickT (v := .bool true) rfl rfl rfl) rfl ?_
      refine x_nil ?_
      refine thenS_n ?_
      refine wpS_cond_t rfl ?_
      refine wpS_seq ?_
      refine wpS_region ?_
      refine s_y (v := .int .i64 1) (y_assign rfl) rfl ?_
      refine wpL_nil ?_
      refine thenS_n ?_
      refine wpS_ret ?_
      refine thenS_r ?_
      refine fin1 (M := []) (v := .int .i64 1) (.inr rfl) (.nil) Try.results101 rfl ?_
      exact fun w' hs => ⟨congrArg (fun z : Int => Ending.returned (.int .i64 z)) (bad_1 (by omega)).symm, hs⟩
    · -- decide ((64 : Int) < p.n0) False
      have p3 := of_decide_eq_false b3
      refine x_gy (y_fieldAddr (o' := 1) rfl Try.underlying53 rfl Try.sizeOf3 (by decide) rfl) rfl rfl rfl rfl (b' := decide ((64 : Int) < p.n0)) rfl b3 ?_
      refine x_gy (y_load1 rfl Try.isAgg3 (own1 .h rfl)) rfl rfl rfl rfl (b' := decide ((64 : Int) < p.n0)) rfl b3 ?_
      refine x_gy (y_lss (a := p.n1) (b := 1) rfl rfl rfl) rfl rfl rfl rfl (b' := decide ((64 : Int) < p.n0)) rfl b3 ?_
      refine x_y (v := .bool (decide ((p.n1 : Int) < 1))) (y_pickF (b := decide ((64 : Int) < p.n0)) (v := .bool (decide ((p.n1 : Int) < 1))) rfl b3 rfl) rfl ?_
      refine x_y (v := .bool (decide ((p.n1 : Int) < 1))) (y_move rfl) rfl ?_
      rcases Bool.eq_false_or_eq_true (decide ((p.n1 : Int) < 1)) with b4 | b4
      · -- decide ((p.n1 : Int) < 1) True
        have p4 := of_decide_eq_true b4
        refine x_no rfl rfl rfl rfl (b' := decide ((p.n1 : Int) < 1)) rfl b4 ?_
        refine x_no rfl rfl rfl rfl (b' := decide ((p.n1 : Int) < 1)) rfl b4 ?_
        refine x_no rfl rfl rfl rfl (b' := decide ((p.n1 : Int) < 1)) rfl b4 ?_
        refine x_y (v := .bool true) (y_pickT (b := decide ((p.n1 : Int) < 1)) (v := .bool true) rfl b4 rfl) rfl ?_
        refine x_y (v := .bool true) (y_move rfl) rfl ?_
        refine x_no rfl rfl rfl rfl rfl rfl ?_
        refine x_no rfl rfl rfl rfl rfl rfl ?_
        refine x_no rfl rfl rfl rfl rfl rfl ?_
        refine x_y (v := .bool true) (y_pickT (v := .bool true) rfl rfl rfl) rfl ?_
        refine x_y (v := .bool true) (y_move rfl) rfl ?_
        refine x_no rfl rfl rfl rfl rfl rfl ?_
        refine x_no rfl rfl rfl rfl rfl rfl ?_
        refine x_no rfl rfl rfl rfl rfl rfl ?_
        refine x_y (v := .bool true) (y_pickT (v := .bool true) rfl rfl rfl) rfl ?_
        refine x_y (v := .bool true) (y_move rfl) rfl ?_
        refine x_no rfl rfl rfl rfl rfl rfl ?_
        refine x_no rfl rfl rfl rfl rfl rfl ?_
        refine x_no rfl rfl rfl rfl rfl rfl ?_
        refine x_y (v := .bool true) (y_pickT (v := .bool true) rfl rfl rfl) rfl ?_
        refine x_y (v := .bool true) (y_move rfl) rfl ?_
        refine x_no rfl rfl rfl rfl rfl rfl ?_
        refine x_no rfl rfl rfl rfl rfl rfl ?_
        refine x_no rfl rfl rfl rfl rfl rfl ?_
        refine x_y (v := .bool true) (y_pickT (v := .bool true) rfl rfl rfl) rfl ?_
        refine x_y (v := .bool true) (y_move rfl) rfl ?_
        refine x_no rfl rfl rfl rfl rfl rfl ?_
        refine x_no rfl rfl rfl rfl rfl rfl ?_
        refine x_no rfl rfl rfl rfl rfl rfl ?_
        refine x_no rfl rfl rfl rfl rfl rfl ?_
        refine x_no rfl rfl rfl rfl rfl rfl ?_
        refine x_no rfl rfl rfl rfl rfl rfl ?_
        refine x_no rfl rfl rfl rfl rfl rfl ?_
        refine x_no rfl rfl rfl rfl rfl rfl ?_
        refine x_no rfl rfl rfl rfl rfl rfl ?_
        refine x_no rfl rfl rfl rfl rfl rfl ?_
        refine x_no rfl rfl rfl rfl rfl rfl ?_
        refine x_no rfl rfl rfl rfl rfl rfl ?_
        refine x_no rfl rfl rfl rfl rfl rfl ?_
        refine x_y (v := .bool true) (y_pickT (v := .bool true) rfl rfl rfl) rfl ?_
        refine x_nil ?_
        refine thenS_n ?_
        refine wpS_cond_t rfl ?_
        refine wpS_seq ?_
        refine wpS_region ?_
        refine s_y (v := .int .i64 1) (y_assign rfl) rfl ?_
        refine wpL_nil ?_
        refine thenS_n ?_
        refine wpS_ret ?_
        refine thenS_r ?_
        refine fin1 (M := []) (v := .int .i64 1) (.inr rfl) (.nil) Try.results101 rfl ?_
        exact fun w' hs => ⟨congrArg (fun z : Int => Ending.returned (.int .i64 z)) (bad_1 (by omega)).symm, hs⟩
      · -- decide ((p.n1 : Int) < 1) False
        have p4 := of_decide_eq_false b4
        refine x_gy (y_fieldAddr (o' := 1) rfl Try.underlying53 rfl Try.sizeOf3 (by decide) rfl) rfl rfl rfl rfl (b' := decide ((p.n1 : Int) < 1)) rfl b4 ?_
        refine x_gy (y_load1 rfl Try.isAgg3 (own1 .h rfl)) rfl rfl rfl rfl (b' := decide ((p.n1 : Int) < 1)) rfl b4 ?_
        refine x_gy (y_gtr (a := p.n1) (b := 4) rfl rfl rfl) rfl rfl rfl rfl (b' := decide ((p.n1 : Int) < 1)) rfl b4 ?_
        refine x_y (v := .bool (decide ((4 : Int) < p.n1))) (y_pickF (b := decide ((p.n1 : Int) < 1)) (v := .bool (decide ((4 : Int) < p.n1))) rfl b4 rfl) rfl ?_
        refine x_y (v := .bool (decide ((4 : Int) < p.n1))) (y_move rfl) rfl ?_
        rcases Bool.eq_false_or_eq_true (decide ((4 : Int) < p.n1)) with b5 | b5
        · -- decide ((4 : Int) < p.n1) True
          have p5 := of_decide_eq_true b5
          refine x_no rfl rfl rfl rfl (b' := decide ((4 : Int) < p.n1)) rfl b5 ?_
          refine x_no rfl rfl rfl rfl (b' := decide ((4 : Int) < p.n1)) rfl b5 ?_
          refine x_no rfl rfl rfl rfl (b' := decide ((4 : Int) < p.n1)) rfl b5 ?_
          refine x_y (v := .bool true) (y_pickT (b := decide ((4 : Int) < p.n1)) (v := .bool true) rfl b5 rfl) rfl ?_
          refine x_y (v := .bool true) (y_move rfl) rfl ?_
          refine x_no rfl rfl rfl rfl rfl rfl ?_
          refine x_no rfl rfl rfl rfl rfl rfl ?_
          refine x_no rfl rfl rfl rfl rfl rfl ?_
          refine x_y (v := .bool true) (y_pickT (v := .bool true) rfl rfl rfl) rfl ?_
          refine x_y (v := .bool true) (y_move rfl) rfl ?_
          refine x_no rfl rfl rfl rfl rfl rfl ?_
          refine x_no rfl rfl rfl rfl rfl rfl ?_
          refine x_no rfl rfl rfl rfl rfl rfl ?_
          refine x_y (v := .bool true) (y_pickT (v := .bool true) rfl rfl rfl) rfl ?_
          refine x_y (v := .bool true) (y_move rfl) rfl ?_
          refine x_no rfl rfl rfl rfl rfl rfl ?_
          refine x_no rfl rfl rfl rfl rfl rfl ?_
          refine x_no rfl rfl rfl rfl rfl rfl ?_
          refine x_y (v := .bool true) (y_pickT (v := .bool true) rfl rfl rfl) rfl ?_
          refine x_y (v := .bool true) (y_move rfl) rfl ?_
          refine x_no rfl rfl rfl rfl rfl rfl ?_
          refine x_no rfl rfl rfl rfl rfl rfl ?_
          refine x_no rfl rfl rfl rfl rfl rfl ?_
          refine x_no rfl rfl rfl rfl rfl rfl ?_
          refine x_no rfl rfl rfl rfl rfl rfl ?_
          refine x_no rfl rfl rfl rfl rfl rfl ?_
          refine x_no rfl rfl rfl rfl rfl rfl ?_
          refine x_no rfl rfl rfl rfl rfl rfl ?_
          refine x_no rfl rfl rfl rfl rfl rfl ?_
          refine x_no rfl rfl rfl rfl rfl rfl ?_
          refine x_no rfl rfl rfl rfl rfl rfl ?_
          refine x_no rfl rfl rfl rfl rfl rfl ?_
          refine x_no rfl rfl rfl rfl rfl rfl ?_
          refine x_y (v := .bool true) (y_pickT (v := .bool true) rfl rfl rfl) rfl ?_
          refine x_nil ?_
          refine thenS_n ?_
          refine wpS_cond_t rfl ?_
          refine wpS_seq ?_
          refine wpS_region ?_
          refine s_y (v := .int .i64 1) (y_assign rfl) rfl ?_
          refine wpL_nil ?_
          refine thenS_n ?_
          refine wpS_ret ?_
          refine thenS_r ?_
          refine fin1 (M := []) (v := .int .i64 1) (.inr rfl) (.nil) Try.results101 rfl ?_
          exact fun w' hs => ⟨congrArg (fun z : Int => Ending.returned (.int .i64 z)) (bad_1 (by omega)).symm, hs⟩
        · -- decide ((4 : Int) < p.n1) False
          have p5 := of_decide_eq_false b5
          refine x_gy (y_fieldAddr (o' := 2) rfl Try.underlying53 rfl Try.sizeOf3 (by decide) rfl) rfl rfl rfl rfl (b' := decide ((4 : Int) < p.n1)) rfl b5 ?_
          refine x_gy (y_load1 rfl Try.isAgg3 (own1 .h rfl)) rfl rfl rfl rfl (b' := decide ((4 : Int) < p.n1)) rfl b5 ?_
          refine x_gy (y_lss (a := p.n2) (b := 1) rfl rfl rfl) rfl rfl rfl rfl (b' := decide ((4 : Int) < p.n1)) rfl b5 ?_
          refine x_y (v := .bool (decide ((p.n2 : Int) < 1))) (y_pickF (b := decide ((4 : Int) < p.n1)) (v := .bool (decide ((p.n2 : Int) < 1))) rfl b5 rfl) rfl ?_
          refine x_y (v := .bool (decide ((p.n2 : Int) < 1))) (y_move rfl) rfl ?_
          rcases Bool.eq_false_or_eq_true (decide ((p.n2 : Int) < 1)) with b6 | b6
          · -- decide ((p.n2 : Int) < 1) True
            have p6 := of_decide_eq_true b6
            refine x_no rfl rfl rfl rfl (b' := decide ((p.n2 : Int) < 1)) rfl b6 ?_
            refine x_no rfl rfl rfl rfl (b' := decide ((p.n2 : Int) < 1)) rfl b6 ?_
            refine x_no rfl rfl rfl rfl (b' := decide ((p.n2 : Int) < 1)) rfl b6 ?_
            refine x_y (v := .bool true) (y_pickT (b := decide ((p.n2 : Int) < 1)) (v := .bool true) rfl b6 rfl) rfl ?_
            refine x_y (v := .bool true) (y_move rfl) rfl ?_
            refine x_no rfl rfl rfl rfl rfl rfl ?_
            refine x_no rfl rfl rfl rfl rfl rfl ?_
            refine x_no rfl rfl rfl rfl rfl rfl ?_
            refine x_y (v := .bool true) (y_pickT (v := .bool true) rfl rfl rfl) rfl ?_
            refine x_y (v := .bool true) (y_move rfl) rfl ?_
            refine x_no rfl rfl rfl rfl rfl rfl ?_
            refine x_no rfl rfl rfl rfl rfl rfl ?_
            refine x_no rfl rfl rfl rfl rfl rfl ?_
            refine x_y (v := .bool true) (y_pickT (v := .bool true) rfl rfl rfl) rfl ?_
            refine x_y (v := .bool true) (y_move rfl) rfl ?_
            refine x_no rfl rfl rfl rfl rfl rfl ?_
            refine x_no rfl rfl rfl rfl rfl rfl ?_
            refine x_no rfl rfl rfl rfl rfl rfl ?_
            refine x_no rfl rfl rfl rfl rfl rfl ?_
            refine x_no rfl rfl rfl rfl rfl rfl ?_
            refine x_no rfl rfl rfl rfl rfl rfl ?_
            refine x_no rfl rfl rfl rfl rfl rfl ?_
            refine x_no rfl rfl rfl rfl rfl rfl ?_
            refine x_no rfl rfl rfl rfl rfl rfl ?_
            refine x_no rfl rfl rfl rfl rfl rfl ?_
            refine x_no rfl rfl rfl rfl rfl rfl ?_
            refine x_no rfl rfl rfl rfl rfl rfl ?_
            refine x_no rfl rfl rfl rfl rfl rfl ?_
            refine x_y (v := .bool true) (y_pickT (v := .bool true) rfl rfl rfl) rfl ?_
            refine x_nil ?_
            refine thenS_n ?_
            refine wpS_cond_t rfl ?_
            refine wpS_seq ?_
            refine wpS_region ?_
            refine s_y (v := .int .i64 1) (y_assign rfl) rfl ?_
            refine wpL_nil ?_
            refine thenS_n ?_
            refine wpS_ret ?_
            refine thenS_r ?_
            refine fin1 (M := []) (v := .int .i64 1) (.inr rfl) (.nil) Try.results101 rfl ?_
            exact fun w' hs => ⟨congrArg (fun z : Int => Ending.returned (.int .i64 z)) (bad_1 (by omega)).symm, hs⟩
          · -- decide ((p.n2 : Int) < 1) False
            have p6 := of_decide_eq_false b6
            refine x_gy (y_fieldAddr (o' := 2) rfl Try.underlying53 rfl Try.sizeOf3 (by decide) rfl) rfl rfl rfl rfl (b' := decide ((p.n2 : Int) < 1)) rfl b6 ?_
            refine x_gy (y_load1 rfl Try.isAgg3 (own1 .h rfl)) rfl rfl rfl rfl (b' := decide ((p.n2 : Int) < 1)) rfl b6 ?_
            refine x_gy (y_gtr (a := p.n2) (b := 8) rfl rfl rfl) rfl rfl rfl rfl (b' := decide ((p.n2 : Int) < 1)) rfl b6 ?_
            refine x_y (v := .bool (decide ((8 : Int) < p.n2))) (y_pickF (b := decide ((p.n2 : Int) < 1)) (v := .bool (decide ((8 : Int) < p.n2))) rfl b6 rfl) rfl ?_
            refine x_y (v := .bool (decide ((8 : Int) < p.n2))) (y_move rfl) rfl ?_
            rcases Bool.eq_false_or_eq_true (decide ((8 : Int) < p.n2)) with b7 | b7
            · -- decide ((8 : Int) < p.n2) True
              have p7 := of_decide_eq_true b7
              refine x_no rfl rfl rfl rfl (b' := decide ((8 : Int) < p.n2)) rfl b7 ?_
              refine x_no rfl rfl rfl rfl (b' := decide ((8 : Int) < p.n2)) rfl b7 ?_
              refine x_no rfl rfl rfl rfl (b' := decide ((8 : Int) < p.n2)) rfl b7 ?_
              refine x_y (v := .bool true) (y_pickT (b := decide ((8 : Int) < p.n2)) (v := .bool true) rfl b7 rfl) rfl ?_
              refine x_y (v := .bool true) (y_move rfl) rfl ?_
              refine x_no rfl rfl rfl rfl rfl rfl ?_
              refine x_no rfl rfl rfl rfl rfl rfl ?_
              refine x_no rfl rfl rfl rfl rfl rfl ?_
              refine x_y (v := .bool true) (y_pickT (v := .bool true) rfl rfl rfl) rfl ?_
              refine x_y (v := .bool true) (y_move rfl) rfl ?_
              refine x_no rfl rfl rfl rfl rfl rfl ?_
              refine x_no rfl rfl rfl rfl rfl rfl ?_
              refine x_no rfl rfl rfl rfl rfl rfl ?_
              refine x_no rfl rfl rfl rfl rfl rfl ?_
              refine x_no rfl rfl rfl rfl rfl rfl ?_
              refine x_no rfl rfl rfl rfl rfl rfl ?_
              refine x_no rfl rfl rfl rfl rfl rfl ?_
              refine x_no rfl rfl rfl rfl rfl rfl ?_
              refine x_no rfl rfl rfl rfl rfl rfl ?_
              refine x_no rfl rfl rfl rfl rfl rfl ?_
              refine x_no rfl rfl rfl rfl rfl rfl ?_
              refine x_no rfl rfl rfl rfl rfl rfl ?_
              refine x_no rfl rfl rfl rfl rfl rfl ?_
              refine x_y (v := .bool true) (y_pickT (v := .bool true) rfl rfl rfl) rfl ?_
              refine x_nil ?_
              refine thenS_n ?_
              refine wpS_cond_t rfl ?_
              refine wpS_seq ?_
              refine wpS_region ?_
              refine s_y (v := .int .i64 1) (y_assign rfl) rfl ?_
              refine wpL_nil ?_
              refine thenS_n ?_
              refine wpS_ret ?_
              refine thenS_r ?_
              refine fin1 (M := []) (v := .int .i64 1) (.inr rfl) (.nil) Try.results101 rfl ?_
              exact fun w' hs => ⟨congrArg (fun z : Int => Ending.returned (.int .i64 z)) (bad_1 (by omega)).symm, hs⟩
            · -- decide ((8 : Int) < p.n2) False
              have p7 := of_decide_eq_false b7
              refine x_gy (y_fieldAddr (o' := 3) rfl Try.underlying53 rfl Try.sizeOf3 (by decide) rfl) rfl rfl rfl rfl (b' := decide ((8 : Int) < p.n2)) rfl b7 ?_
              refine x_gy (y_load1 rfl Try.isAgg3 (own1 .h rfl)) rfl rfl rfl rfl (b' := decide ((8 : Int) < p.n2)) rfl b7 ?_
              refine x_gy (y_lss (a := p.n3) (b := 1) rfl rfl rfl) rfl rfl rfl rfl (b' := decide ((8 : Int) < p.n2)) rfl b7 ?_
              refine x_y (v := .bool (decide ((p.n3 : Int) < 1))) (y_pickF (b := decide ((8 : Int) < p.n2)) (v := .bool (decide ((p.n3 : Int) < 1))) rfl b7 rfl) rfl ?_
              refine x_y (v := .bool (decide ((p.n3 : Int) < 1))) (y_move rfl) rfl ?_
              rcases Bool.eq_false_or_eq_true (decide ((p.n3 : Int) < 1)) with b8 | b8
              · -- decide ((p.n3 : Int) < 1) True
                have p8 := of_decide_eq_true b8
                refine x_no rfl rfl rfl rfl (b' := decide ((p.n3 : Int) < 1)) rfl b8 ?_
                refine x_no rfl rfl rfl rfl (b' := decide ((p.n3 : Int) < 1)) rfl b8 ?_
                refine x_no rfl rfl rfl rfl (b' := decide ((p.n3 : Int) < 1)) rfl b8 ?_
                refine x_y (v := .bool true) (y_pickT (b := decide ((p.n3 : Int) < 1)) (v := .bool true) rfl b8 rfl) rfl ?_
                refine x_y (v := .bool true) (y_move rfl) rfl ?_
                refine x_no rfl rfl rfl rfl rfl rfl ?_
                refine x_no rfl rfl rfl rfl rfl rfl ?_
                refine x_no rfl rfl rfl rfl rfl rfl ?_
                refine x_no rfl rfl rfl rfl rfl rfl ?_
                refine x_no rfl rfl rfl rfl rfl rfl ?_
                refine x_no rfl rfl rfl rfl rfl rfl ?_
                refine x_no rfl rfl rfl rfl rfl rfl ?_
                refine x_no rfl rfl rfl rfl rfl rfl ?_
                refine x_no rfl rfl rfl rfl rfl rfl ?_
                refine x_no rfl rfl rfl rfl rfl rfl ?_
                refine x_no rfl rfl rfl rfl rfl rfl ?_
                refine x_no rfl rfl rfl rfl rfl rfl ?_
                refine x_no rfl rfl rfl rfl rfl rfl ?_
                refine x_y (v := .bool true) (y_pickT (v := .bool true) rfl rfl rfl) rfl ?_
                refine x_nil ?_
                refine thenS_n ?_
                refine wpS_cond_t rfl ?_
                refine wpS_seq ?_
                refine wpS_region ?_
                refine s_y (v := .int .i64 1) (y_assign rfl) rfl ?_
                refine wpL_nil ?_
                refine thenS_n ?_
                refine wpS_ret ?_
                refine thenS_r ?_
                refine fin1 (M := []) (v := .int .i64 1) (.inr rfl) (.nil) Try.results101 rfl ?_
                exact fun w' hs => ⟨congrArg (fun z : Int => Ending.returned (.int .i64 z)) (bad_1 (by omega)).symm, hs⟩
              · -- decide ((p.n3 : Int) < 1) False
                have p8 := of_decide_eq_false b8
                refine x_gy (y_fieldAddr (o' := 3) rfl Try.underlying53 rfl Try.sizeOf3 (by decide) rfl) rfl rfl rfl rfl (b' := decide ((p.n3 : Int) < 1)) rfl b8 ?_
                refine x_gy (y_load1 rfl Try.isAgg3 (own1 .h rfl)) rfl rfl rfl rfl (b' := decide ((p.n3 : Int) < 1)) rfl b8 ?_
                refine x_gy (y_gtr (a := p.n3) (b := 4) rfl rfl rfl) rfl rfl rfl rfl (b' := decide ((p.n3 : Int) < 1)) rfl b8 ?_
                refine x_y (v := .bool (decide ((4 : Int) < p.n3))) (y_pickF (b := decide ((p.n3 : Int) < 1)) (v := .bool (decide ((4 : Int) < p.n3))) rfl b8 rfl) rfl ?_
                refine x_y (v := .bool (decide ((4 : Int) < p.n3))) (y_move rfl) rfl ?_
                rcases Bool.eq_false_or_eq_true (decide ((4 : Int) < p.n3)) with b9 | b9
                · -- decide ((4 : Int) < p.n3) True
                  have p9 := of_decide_eq_true b9
                  refine x_no rfl rfl rfl rfl (b' := decide ((4 : Int) < p.n3)) rfl b9 ?_
                  refine x_no rfl rfl rfl rfl (b' := decide ((4 : Int) < p.n3)) rfl b9 ?_
                  refine x_no rfl rfl rfl rfl (b' := decide ((4 : Int) < p.n3)) rfl b9 ?_
                  refine x_no rfl rfl rfl rfl (b' := decide ((4 : Int) < p.n3)) rfl b9 ?_
                  refine x_no rfl rfl rfl rfl (b' := decide ((4 : Int) < p.n3)) rfl b9 ?_
                  refine x_no rfl rfl rfl rfl (b' := decide ((4 : Int) < p.n3)) rfl b9 ?_
                  refine x_no rfl rfl rfl rfl (b' := decide ((4 : Int) < p.n3)) rfl b9 ?_
                  refine x_no rfl rfl rfl rfl (b' := decide ((4 : Int) < p.n3)) rfl b9 ?_
                  refine x_no rfl rfl rfl rfl (b' := decide ((4 : Int) < p.n3)) rfl b9 ?_
                  refine x_no rfl rfl rfl rfl (b' := decide ((4 : Int) < p.n3)) rfl b9 ?_
                  refine x_no rfl rfl rfl rfl (b' := decide ((4 : Int) < p.n3)) rfl b9 ?_
                  refine x_no rfl rfl rfl rfl (b' := decide ((4 : Int) < p.n3)) rfl b9 ?_
                  refine x_no rfl rfl rfl rfl (b' := decide ((4 : Int) < p.n3)) rfl b9 ?_
                  refine x_y (v := .bool true) (y_pickT (b := decide ((4 : Int) < p.n3)) (v := .bool true) rfl b9 rfl) rfl ?_
                  refine x_nil ?_
                  refine thenS_n ?_
                  refine wpS_cond_t rfl ?_
                  refine wpS_seq ?_
                  refine wpS_region ?_
                  refine s_y (v := .int .i64 1) (y_assign rfl) rfl ?_
                  refine wpL_nil ?_
                  refine thenS_n ?_
                  refine wpS_ret ?_
                  refine thenS_r ?_
                  refine fin1 (M := []) (v := .int .i64 1) (.inr rfl) (.nil) Try.results101 rfl ?_
                  exact fun w' hs => ⟨congrArg (fun z : Int => Ending.returned (.int .i64 z)) (bad_1 (by omega)).symm, hs⟩
                · -- decide ((4 : Int) < p.n3) False
                  have p9 := of_decide_eq_false b9
                  refine x_gy (y_fieldAddr (o' := 1) rfl Try.underlying53 rfl Try.sizeOf3 (by decide) rfl) rfl rfl rfl rfl (b' := decide ((4 : Int) < p.n3)) rfl b9 ?_
                  refine x_gy (y_load1 rfl Try.isAgg3 (own1 .h rfl)) rfl rfl rfl rfl (b' := decide ((4 : Int) < p.n3)) rfl b9 ?_
                  refine x_gy (y_fieldAddr (o' := 0) rfl Try.underlying53 rfl Try.sizeOf3 (by decide) rfl) rfl rfl rfl rfl (b' := decide ((4 : Int) < p.n3)) rfl b9 ?_
                  refine x_gy (y_load1 rfl Try.isAgg3 (own1 .h rfl)) rfl rfl rfl rfl (b' := decide ((4 : Int) < p.n3)) rfl b9 ?_
                  refine x_gy (y_fieldAddr (o' := 2) rfl Try.underlying53 rfl Try.sizeOf3 (by decide) rfl) rfl rfl rfl rfl (b' := decide ((4 : Int) < p.n3)) rfl b9 ?_
                  refine x_gy (y_load1 rfl Try.isAgg3 (own1 .h rfl)) rfl rfl rfl rfl (b' := decide ((4 : Int) < p.n3)) rfl b9 ?_
                  refine x_gy (y_add (a := p.n0) (b := p.n2) (c := p.n0 + p.n2) rfl rfl (wI rfl (by omega) (by omega))) rfl rfl rfl rfl (b' := decide ((4 : Int) < p.n3)) rfl b9 ?_
                  refine x_gy (y_sub (a := p.n0 + p.n2) (b := 1) (c := (p.n0 + p.n2) - 1) rfl rfl (wI rfl (by omega) (by omega))) rfl rfl rfl rfl (b' := decide ((4 : Int) < p.n3)) rfl b9 ?_
                  refine x_gy (y_fieldAddr (o' := 2) rfl Try.underlying53 rfl Try.sizeOf3 (by decide) rfl) rfl rfl rfl rfl (b' := decide ((4 : Int) < p.n3)) rfl b9 ?_
                  refine x_gy (y_load1 rfl Try.isAgg3 (own1 .h rfl)) rfl rfl rfl rfl (b' := decide ((4 : Int) < p.n3)) rfl b9 ?_
                  have hc := cdv_bd (a := p.n0) (b := p.n2) (by omega) (by omega) (by omega)
                  refine x_gy (y_quo (a := (p.n0 + p.n2) - 1) (b := p.n2) (c := cdv p.n0 p.n2) rfl rfl (by omega) (up_wrap (by omega) (by omega) (by omega) (by omega))) rfl rfl rfl rfl (b' := decide ((4 : Int) < p.n3)) rfl b9 ?_
                  have hnb := nb_bd (a := p.n1) (c := cdv p.n0 p.n2) (by omega) (by omega) (by omega) (by omega)
                  refine x_gy (y_mul (a := p.n1) (b := cdv p.n0 p.n2) (c := p.n1 * cdv p.n0 p.n2) rfl rfl (nb_wrap (by omega) (by omega) (by omega) (by omega))) rfl rfl rfl rfl (b' := decide ((4 : Int) < p.n3)) rfl b9 ?_
                  refine x_gy (y_geq (a := p.n1 * cdv p.n0 p.n2) (b := 32) rfl rfl rfl) rfl rfl rfl rfl (b' := decide ((4 : Int) < p.n3)) rfl b9 ?_
                  refine x_y (v := .bool (decide ((32 : Int) ≤ (p.n1 * cdv p.n0 p.n2)))) (y_pickF (b := decide ((4 : Int) < p.n3)) (v := .bool (decide ((32 : Int) ≤ (p.n1 * cdv p.n0 p.n2)))) rfl b9 rfl) rfl ?_
                  refine x_nil ?_
                  refine thenS_n ?_
                  refine wpS_cond (t := decide ((32 : Int) ≤ (p.n1 * cdv p.n0 p.n2))) rfl (fun b10 => ?_) (fun b10 => ?_)
                  · -- decide ((32 : Int) ≤ (p.n1 * cdv p.n0 p.n2)) true
                    have p10 := of_decide_eq_true b10
                    refine wpS_seq ?_
                    refine wpS_region ?_
                    refine s_y (v := .int .i64 1) (y_assign rfl) rfl ?_
                    refine wpL_nil ?_
                    refine thenS_n ?_
                    refine wpS_ret ?_
                    refine thenS_r ?_
                    refine fin1 (M := []) (v := .int .i64 1) (.inr rfl) (.nil) Try.results101 rfl ?_
                    exact fun w' hs => ⟨congrArg (fun z : Int => Ending.returned (.int .i64 z)) (bad_1 (by omega)).symm, hs⟩
                  · -- decide ((32 : Int) ≤ (p.n1 * cdv p.n0 p.n2)) false
                    have p10 := of_decide_eq_false b10
                    refine wpS_skip ?_
                    refine thenS_n ?_
                    refine wpS_seq ?_
                    refine wpS_region ?_
                    refine s_y (v := .int .i64 0) (y_assign rfl) rfl ?_
                    refine wpL_nil ?_
                    refine thenS_n ?_
                    refine wpS_ret ?_
                    refine fin1 (M := []) (v := .int .i64 0) (.inr rfl) (.nil) Try.results101 rfl ?_
                    exact fun w' hs => ⟨congrArg (fun z : Int => Ending.returned (.int .i64 z)) (bad_0 (by omega)).symm, hs⟩

theorem few_c (p : Par) (w : World) : Pure Try.prog 62 #[.agg #[.int .i64 (p.n0), .int .i64 (p.n1), .int .i64 (p.n2), .int .i64 (p.n3)]] w (.agg #[.int .i64 ((few p).n0), .int .i64 ((few p).n1), .int .i64 ((few p).n2), .int .i64 ((few p).n3)]) := by
  refine calls_S (n := 29) (σ0 := (upd fr0 0 (.agg #[.int .i64 (p.n0), .int .i64 (p.n1), .int .i64 (p.n2), .int .i64 (p.n3)]))) (D := []) (A := []) Try.func62 rfl Try.ntmps62 rfl (a1_fr _) (SH.start w) ?_
  refine wpS_seq ?_
  refine wpS_region ?_
  refine s_e rfl ?_
  refine e_box (v := .agg #[.int .i64 (p.n0), .int .i64 (p.n1), .int .i64 (p.n2), .int .i64 (p.n3)]) (l := [.int .i64 (p.n0), .int .i64 (p.n1), .int .i64 (p.n2), .int .i64 (p.n3)]) rfl rfl ?_
  intro b_1
  refine s_e rfl ?_
  refine e_alloc (l := [.int .i64 0, .int .i64 0, .int .i64 0, .int .i64 0]) Try.zeroValue53 rfl ?_
  intro b_2
  refine wpL_nil ?_
  refine thenS_n ?_
  refine wpS_seq ?_
  refine wpS_seq ?_
  refine wpS_region ?_
  refine s_y (v := .agg #[.int .i64 (p.n0), .int .i64 (p.n1), .int .i64 (p.n2), .int .i64 (p.n3)]) (y_loadN (vs := [.int .i64 (p.n0), .int .i64 (p.n1), .int .i64 (p.n2), .int .i64 (p.n3)]) rfl Try.isAgg53 Try.sizeOf53 (ownN (.t .h) rfl)) rfl ?_
  refine s_y (v := .int .i64 (bad p)) (y_call (args := #[.agg #[.int .i64 (p.n0), .int .i64 (p.n1), .int .i64 (p.n2), .int .i64 (p.n3)]]) (v := .int .i64 (bad p)) Try.call101 (ev1 rfl) (fun w hs => rright_c p w)) rfl ?_
  refine s_y (v := .bool (decide ((bad p : Int) = 0))) (y_eql (a := bad p) (b := 0) rfl rfl rfl) rfl ?_
  refine wpL_nil ?_
  refine thenS_n ?_
  refine wpS_cond (t := decide ((bad p : Int) = 0)) rfl (fun b3 => ?_) (fun b3 => ?_)
  · -- decide ((bad p : Int) = 0) true
    have p3 := of_decide_eq_true b3
    have hbp : ok p = true := bad_yes p3
    have hbd := ok_bd hbp
    refine wpS_block ?_
    refine wpS_loop (fun mez ds σ L => ∃ i : Int, mez = i.toNat ∧ (1 ≤ i) ∧ (i ≤ 64) ∧ (fewI p.n1 p.n2 i = fewI p.n1 p.n2 p.n0) ∧ ds = [] ∧ σ 1 = .pointer (some ⟨b_1, 0, none⟩) ∧ σ 2 = .pointer (some ⟨b_2, 0, none⟩) ∧ Ent L [cel b_2 53 [.int .i64 0, .int .i64 0, .int .i64 0, .int .i64 0], cel b_1 53 [.int .i64 i, .int .i64 (p.n1), .int .i64 (p.n2), .int .i64 (p.n3)]]) (m0 := p.n0.toNat) ⟨p.n0, rfl, by omega, by omega, rfl, rfl, rfl, rfl, .p .h (.p .h .nil)⟩ ?_
    rintro mez ds σ L ⟨i, hm_4, hf0_4, hf1_4, hf2_4, rfl, h1_4, h2_4, hE_4⟩
    refine wpS_ent hE_4 ?_; clear hE_4
    refine wpS_seq ?_
    refine wpS_seq ?_
    refine wpS_lex (by kernel_rfl) (by kernel_rfl) ?_
    refine x_y (v := .pointer (some ⟨b_1, 0, none⟩)) (y_fieldAddr (o' := 0) h1_4 Try.underlying53 rfl Try.sizeOf3 (by decide) rfl) rfl ?_
    refine x_y (v := .int .i64 i) (y_load1 rfl Try.isAgg3 (own1 (.t .h) rfl)) rfl ?_
    refine x_y (v := .bool (decide ((1 : Int) < i))) (y_gtr (a := i) (b := 1) rfl rfl rfl) rfl ?_
    refine x_y (v := .bool (decide ((1 : Int) < i))) (y_move rfl) rfl ?_
    rcases Bool.eq_false_or_eq_true (decide ((1 : Int) < i)) with b5 | b5
    · -- decide ((1 : Int) < i) True
      have p5 := of_decide_eq_true b5
      refine x_gy (y_fieldAddr (o' := 1) h1_4 Try.underlying53 rfl Try.sizeOf3 (by decide) rfl) rfl rfl rfl rfl (b' := decide ((1 : Int) < i)) rfl b5 ?_
      refine x_gy (y_load1 rfl Try.isAgg3 (own1 (.t .h) rfl)) rfl rfl rfl rfl (b' := decide ((1 : Int) < i)) rfl b5 ?_
      refine x_gy (y_fieldAddr (o' := 0) h1_4 Try.underlying53 rfl Try.sizeOf3 (by decide) rfl) rfl rfl rfl rfl (b' := decide ((1 : Int) < i)) rfl b5 ?_
      refine x_gy (y_load1 rfl Try.isAgg3 (own1 (.t .h) rfl)) rfl rfl rfl rfl (b' := decide ((1 : Int) < i)) rfl b5 ?_
      refine x_gy (y_fieldAddr (o' := 2) h1_4 Try.underlying53 rfl Try.sizeOf3 (by decide) rfl) rfl rfl rfl rfl (b' := decide ((1 : Int) < i)) rfl b5 ?_
      refine x_gy (y_load1 rfl Try.isAgg3 (own1 (.t .h) rfl)) rfl rfl rfl rfl (b' := decide ((1 : Int) < i)) rfl b5 ?_
      refine x_gy (y_add (a := i) (b := p.n2) (c := i + p.n2) rfl rfl (wI rfl (by omega) (by omega))) rfl rfl rfl rfl (b' := decide ((1 : Int) < i)) rfl b5 ?_
      refine x_gy (y_sub (a := i + p.n2) (b := 1) (c := (i + p.n2) - 1) rfl rfl (wI rfl (by omega) (by omega))) rfl rfl rfl rfl (b' := decide ((1 : Int) < i)) rfl b5 ?_
      refine x_gy (y_fieldAddr (o' := 2) h1_4 Try.underlying53 rfl Try.sizeOf3 (by decide) rfl) rfl rfl rfl rfl (b' := decide ((1 : Int) < i)) rfl b5 ?_
      refine x_gy (y_load1 rfl Try.isAgg3 (own1 (.t .h) rfl)) rfl rfl rfl rfl (b' := decide ((1 : Int) < i)) rfl b5 ?_
      have hc := cdv_bd (a := i) (b := p.n2) (by omega) (by omega) (by omega)
      refine x_gy (y_quo (a := (i + p.n2) - 1) (b := p.n2) (c := cdv i p.n2) rfl rfl (by omega) (up_wrap (by omega) (by omega) (by omega) (by omega))) rfl rfl rfl rfl (b' := decide ((1 : Int) < i)) rfl b5 ?_
      have hnb := nb_bd (a := p.n1) (c := cdv i p.n2) (by omega) (by omega) (by omega) (by omega)
      refine x_gy (y_mul (a := p.n1) (b := cdv i p.n2) (c := p.n1 * cdv i p.n2) rfl rfl (nb_wrap (by omega) (by omega) (by omega) (by omega))) rfl rfl rfl rfl (b' := decide ((1 : Int) < i)) rfl b5 ?_
      refine x_gy (y_gtr (a := p.n1 * cdv i p.n2) (b := 7) rfl rfl rfl) rfl rfl rfl rfl (b' := decide ((1 : Int) < i)) rfl b5 ?_
      refine x_y (v := .bool (decide ((7 : Int) < (p.n1 * cdv i p.n2)))) (y_pickT (b := decide ((1 : Int) < i)) (v := .bool (decide ((7 : Int) < (p.n1 * cdv i p.n2)))) rfl b5 rfl) rfl ?_
      refine x_nil ?_
      refine thenS_n ?_
      refine wpS_cond (t := decide ((7 : Int) < (p.n1 * cdv i p.n2))) rfl (fun b6 => ?_) (fun b6 => ?_)
      · -- decide ((7 : Int) < (p.n1 * cdv i p.n2)) true
        have p6 := of_decide_eq_true b6
        refine wpS_skip ?_
        refine thenS_n ?_
        refine wpS_block ?_
        refine wpS_region ?_
        refine s_y (v := .pointer (some ⟨b_1, 0, none⟩)) (y_fieldAddr (o' := 0) h1_4 Try.underlying53 rfl Try.sizeOf3 (by decide) rfl) rfl ?_
        refine s_y (v := .int .i64 i) (y_load1 rfl Try.isAgg3 (own1 (.t .h) rfl)) rfl ?_
        refine s_y (v := .int .i64 (i - 1)) (y_sub (a := i) (b := 1) (c := i - 1) rfl rfl (wI rfl (by omega) (by omega))) rfl ?_
        refine s_y (v := .pointer (some ⟨b_1, 0, none⟩)) (y_fieldAddr (o' := 0) h1_4 Try.underlying53 rfl Try.sizeOf3 (by decide) rfl) rfl ?_
        refine s_e0 ?_
        refine e_store (vs := [.int .i64 (i - 1)]) (l' := [.int .i64 (i - 1), .int .i64 (p.n1), .int .i64 (p.n2), .int .i64 (p.n3)]) rfl rfl rfl rfl Try.sizeOf3 (.t .h) (Nat.le_of_ble_eq_true rfl) rfl ?_
        refine wpL_nil ?_
        refine blockS_n ?_
        refine thenS_n ?_
        exact ⟨_, by omega, ⟨(i - 1), rfl, by omega, by omega, ((fewI_step (by omega) (by omega)).trans (by assumption)), rfl, h1_4, h2_4, .p (.t .h) (.p .h .nil)⟩⟩
      · -- decide ((7 : Int) < (p.n1 * cdv i p.n2)) false
        have p6 := of_decide_eq_false b6
        refine wpS_exit ?_
        refine thenS_x ?_
        refine thenS_x ?_
        refine blockS_h ?_
        refine thenS_n ?_
        refine wpS_seq ?_
        refine wpS_region ?_
        refine s_y (v := .agg #[.int .i64 i, .int .i64 (p.n1), .int .i64 (p.n2), .int .i64 (p.n3)]) (y_loadN (vs := [.int .i64 i, .int .i64 (p.n1), .int .i64 (p.n2), .int .i64 (p.n3)]) h1_4 Try.isAgg53 Try.sizeOf53 (ownN (.t .h) rfl)) rfl ?_
        refine s_e0 ?_
        refine e_store (vs := [.int .i64 i, .int .i64 (p.n1), .int .i64 (p.n2), .int .i64 (p.n3)]) (l' := [.int .i64 i, .int .i64 (p.n1), .int .i64 (p.n2), .int .i64 (p.n3)]) h2_4 rfl rfl rfl Try.sizeOf53 .h (Nat.le_of_ble_eq_true rfl) rfl ?_
        refine wpL_nil ?_
        refine thenS_n ?_
        refine wpS_ret ?_
        refine fin1' (M := [cel b_2 53 [.int .i64 i, .int .i64 (p.n1), .int .i64 (p.n2), .int .i64 (p.n3)]]) (.inr rfl) (.p .h .nil) Try.results62 (rvC (vs := [.int .i64 i, .int .i64 (p.n1), .int .i64 (p.n2), .int .i64 (p.n3)]) h2_4 Try.isAgg53 Try.sizeOf53 (fun w hs => ownN .h rfl w hs)) ?_
        intro w' hs; exact ⟨congrArg (fun q : Par => Ending.returned (.agg (parV q).toArray)) (few_yes hbp (by assumption) (by omega) (by omega)).symm, SH.dropAll (L := []) [_] hs⟩
    · -- decide ((1 : Int) < i) False
      have p5 := of_decide_eq_false b5
      refine x_no rfl rfl rfl rfl (b' := decide ((1 : Int) < i)) rfl b5 ?_
      refine x_no rfl rfl rfl rfl (b' := decide ((1 : Int) < i)) rfl b5 ?_
      refine x_no rfl rfl rfl rfl (b' := decide ((1 : Int) < i)) rfl b5 ?_
      refine x_no rfl rfl rfl rfl (b' := decide ((1 : Int) < i)) rfl b5 ?_
      refine x_no rfl rfl rfl rfl (b' := decide ((1 : Int) < i)) rfl b5 ?_
      refine x_no rfl rfl rfl rfl (b' := decide ((1 : Int) < i)) rfl b5 ?_
      refine x_no rfl rfl rfl rfl (b' := decide ((1 : Int) < i)) rfl b5 ?_
      refine x_no rfl rfl rfl rfl (b' := decide ((1 : Int) < i)) rfl b5 ?_
      refine x_no rfl rfl rfl rfl (b' := decide ((1 : Int) < i)) rfl b5 ?_
      refine x_no rfl rfl rfl rfl (b' := decide ((1 : Int) < i)) rfl b5 ?_
      refine x_no rfl rfl rfl rfl (b' := decide ((1 : Int) < i)) rfl b5 ?_
      refine x_no rfl rfl rfl rfl (b' := decide ((1 : Int) < i)) rfl b5 ?_
      refine x_no rfl rfl rfl rfl (b' := decide ((1 : Int) < i)) rfl b5 ?_
      refine x_y (v := .bool false) (y_pickF (b := decide ((1 : Int) < i)) (v := .bool false) rfl b5 rfl) rfl ?_
      refine x_nil ?_
      refine thenS_n ?_
      refine wpS_cond_f rfl ?_
      refine wpS_exit ?_
      refine thenS_x ?_
      refine thenS_x ?_
      refine blockS_h ?_
      refine thenS_n ?_
      refine wpS_seq ?_
      refine wpS_region ?_
      refine s_y (v := .agg #[.int .i64 i, .int .i64 (p.n1), .int .i64 (p.n2), .int .i64 (p.n3)]) (y_loadN (vs := [.int .i64 i, .int .i64 (p.n1), .int .i64 (p.n2), .int .i64 (p.n3)]) h1_4 Try.isAgg53 Try.sizeOf53 (ownN (.t .h) rfl)) rfl ?_
      refine s_e0 ?_
      refine e_store (vs := [.int .i64 i, .int .i64 (p.n1), .int .i64 (p.n2), .int .i64 (p.n3)]) (l' := [.int .i64 i, .int .i64 (p.n1), .int .i64 (p.n2), .int .i64 (p.n3)]) h2_4 rfl rfl rfl Try.sizeOf53 .h (Nat.le_of_ble_eq_true rfl) rfl ?_
      refine wpL_nil ?_
      refine thenS_n ?_
      refine wpS_ret ?_
      refine fin1' (M := [cel b_2 53 [.int .i64 i, .int .i64 (p.n1), .int .i64 (p.n2), .int .i64 (p.n3)]]) (.inr rfl) (.p .h .nil) Try.results62 (rvC (vs := [.int .i64 i, .int .i64 (p.n1), .int .i64 (p.n2), .int .i64 (p.n3)]) h2_4 Try.isAgg53 Try.sizeOf53 (fun w hs => ownN .h rfl w hs)) ?_
      intro w' hs; exact ⟨congrArg (fun q : Par => Ending.returned (.agg (parV q).toArray)) (few_yes hbp (by assumption) (by omega) (by omega)).symm, SH.dropAll (L := []) [_] hs⟩
  · -- decide ((bad p : Int) = 0) false
    have p3 := of_decide_eq_false b3
    have hbp : ok p = false := bad_no p3
    refine wpS_skip ?_
    refine thenS_n ?_
    refine wpS_seq ?_
    refine wpS_region ?_
    refine s_y (v := .agg #[.int .i64 (p.n0), .int .i64 (p.n1), .int .i64 (p.n2), .int .i64 (p.n3)]) (y_loadN (vs := [.int .i64 (p.n0), .int .i64 (p.n1), .int .i64 (p.n2), .int .i64 (p.n3)]) rfl Try.isAgg53 Try.sizeOf53 (ownN (.t .h) rfl)) rfl ?_
    refine s_e0 ?_
    refine e_store (vs := [.int .i64 (p.n0), .int .i64 (p.n1), .int .i64 (p.n2), .int .i64 (p.n3)]) (l' := [.int .i64 (p.n0), .int .i64 (p.n1), .int .i64 (p.n2), .int .i64 (p.n3)]) rfl rfl rfl rfl Try.sizeOf53 .h (Nat.le_of_ble_eq_true rfl) rfl ?_
    refine wpL_nil ?_
    refine thenS_n ?_
    refine wpS_ret ?_
    refine fin1' (M := [cel b_2 53 [.int .i64 (p.n0), .int .i64 (p.n1), .int .i64 (p.n2), .int .i64 (p.n3)]]) (.inr rfl) (.p .h .nil) Try.results62 (rvC (vs := [.int .i64 (p.n0), .int .i64 (p.n1), .int .i64 (p.n2), .int .i64 (p.n3)]) rfl Try.isAgg53 Try.sizeOf53 (fun w hs => ownN .h rfl w hs)) ?_
    intro w' hs; exact ⟨congrArg (fun q : Par => Ending.returned (.agg (parV q).toArray)) (few_no hbp).symm, SH.dropAll (L := []) [_] hs⟩

theorem rblocks_c (p : Par) (w : World) : Pure Try.prog 63 #[.agg #[.int .i64 (p.n0), .int .i64 (p.n1), .int .i64 (p.n2), .int .i64 (p.n3)]] w (.tuple #[.int .i64 (bk p), .int .i64 ((((sl p) : Nat) : Int))]) := by
  refine calls_S (n := 24) (σ0 := (upd fr0 0 (.agg #[.int .i64 (p.n0), .int .i64 (p.n1), .int .i64 (p.n2), .int .i64 (p.n3)]))) (D := []) (A := []) Try.func63 rfl Try.ntmps63 rfl (a1_fr _) (SH.start w) ?_
  refine wpS_seq ?_
  refine wpS_region ?_
  refine s_e rfl ?_
  refine e_box (v := .agg #[.int .i64 (p.n0), .int .i64 (p.n1), .int .i64 (p.n2), .int .i64 (p.n3)]) (l := [.int .i64 (p.n0), .int .i64 (p.n1), .int .i64 (p.n2), .int .i64 (p.n3)]) rfl rfl ?_
  intro b_1
  refine s_y (v := .int .i64 0) (y_assign rfl) rfl ?_
  refine s_y (v := .int .i64 0) (y_assign rfl) rfl ?_
  refine wpL_nil ?_
  refine thenS_n ?_
  refine wpS_seq ?_
  refine wpS_seq ?_
  refine wpS_region ?_
  refine s_y (v := .agg #[.int .i64 (p.n0), .int .i64 (p.n1), .int .i64 (p.n2), .int .i64 (p.n3)]) (y_loadN (vs := [.int .i64 (p.n0), .int .i64 (p.n1), .int .i64 (p.n2), .int .i64 (p.n3)]) rfl Try.isAgg53 Try.sizeOf53 (ownN .h rfl)) rfl ?_
  refine s_y (v := .int .i64 (bad p)) (y_call (args := #[.agg #[.int .i64 (p.n0), .int .i64 (p.n1), .int .i64 (p.n2), .int .i64 (p.n3)]]) (v := .int .i64 (bad p)) Try.call101 (ev1 rfl) (fun w hs => rright_c p w)) rfl ?_
  refine s_y (v := .bool (decide ((bad p : Int) ≠ 0))) (y_neq (a := bad p) (b := 0) rfl rfl rfl) rfl ?_
  refine wpL_nil ?_
  refine thenS_n ?_
  refine wpS_cond (t := decide ((bad p : Int) ≠ 0)) rfl (fun b2 => ?_) (fun b2 => ?_)
  · -- decide ((bad p : Int) ≠ 0) true
    have p2 := of_decide_eq_true b2
    have hbp : ok p = false := bad_no p2
    refine wpS_seq ?_
    refine wpS_region ?_
    refine s_y (v := .int .i64 0) (y_assign rfl) rfl ?_
    refine s_y (v := .int .i64 0) (y_assign rfl) rfl ?_
    refine wpL_nil ?_
    refine thenS_n ?_
    refine wpS_ret ?_
    refine thenS_r ?_
    refine fin2 (M := []) (.inr rfl) (.nil) Try.results63 (rvT (v := .int .i64 0) rfl) (rvT (v := .int .i64 0) rfl) ?_
    exact fun w' hs => ⟨by rw [bk_no hbp, sl_no hbp] <;> rfl, hs⟩
  · -- decide ((bad p : Int) ≠ 0) false
    have p2 := of_decide_eq_false b2
    have hbp : ok p = true := bad_yes (Decidable.not_not.1 p2)
    have hbd := ok_bd hbp
    refine wpS_skip ?_
    refine thenS_n ?_
    refine wpS_seq ?_
    refine wpS_region ?_
    refine s_y (v := .pointer (some ⟨b_1, 0, none⟩)) (y_fieldAddr (o' := 0) rfl Try.underlying53 rfl Try.sizeOf3 (by decide) rfl) rfl ?_
    refine s_y (v := .int .i64 (p.n0)) (y_load1 rfl Try.isAgg3 (own1 .h rfl)) rfl ?_
    refine s_y (v := .pointer (some ⟨b_1, 2, none⟩)) (y_fieldAddr (o' := 2) rfl Try.underlying53 rfl Try.sizeOf3 (by decide) rfl) rfl ?_
    refine s_y (v := .int .i64 (p.n2)) (y_load1 rfl Try.isAgg3 (own1 .h rfl)) rfl ?_
    refine s_y (v := .int .i64 (p.n0 + p.n2)) (y_add (a := p.n0) (b := p.n2) (c := p.n0 + p.n2) rfl rfl (wI rfl (by omega) (by omega))) rfl ?_
    refine s_y (v := .int .i64 ((p.n0 + p.n2) - 1)) (y_sub (a := p.n0 + p.n2) (b := 1) (c := (p.n0 + p.n2) - 1) rfl rfl (wI rfl (by omega) (by omega))) rfl ?_
    refine s_y (v := .pointer (some ⟨b_1, 2, none⟩)) (y_fieldAddr (o' := 2) rfl Try.underlying53 rfl Try.sizeOf3 (by decide) rfl) rfl ?_
    refine s_y (v := .int .i64 (p.n2)) (y_load1 rfl Try.isAgg3 (own1 .h rfl)) rfl ?_
    have hc := cdv_bd (a := p.n0) (b := p.n2) (by omega) (by omega) (by omega)
    refine s_y (v := .int .i64 (cdv p.n0 p.n2)) (y_quo (a := (p.n0 + p.n2) - 1) (b := p.n2) (c := cdv p.n0 p.n2) rfl rfl (by omega) (up_wrap (by omega) (by omega) (by omega) (by omega))) rfl ?_
    refine s_y (v := .int .i64 (cdv p.n0 p.n2)) (y_assign rfl) rfl ?_
    refine wpL_nil ?_
    refine thenS_n ?_
    refine wpS_seq ?_
    refine wpS_region ?_
    refine s_y (v := .int .i64 (cdv p.n0 p.n2)) (y_move rfl) rfl ?_
    refine s_y (v := .int .i64 (cdv p.n0 p.n2)) (y_move rfl) rfl ?_
    refine s_y (v := .pointer (some ⟨b_1, 1, none⟩)) (y_fieldAddr (o' := 1) rfl Try.underlying53 rfl Try.sizeOf3 (by decide) rfl) rfl ?_
    refine s_y (v := .int .i64 (p.n1)) (y_load1 rfl Try.isAgg3 (own1 .h rfl)) rfl ?_
    have hnb := nb_bd (a := p.n1) (c := cdv p.n0 p.n2) (by omega) (by omega) (by omega) (by omega)
    refine s_y (v := .int .i64 (p.n1 * cdv p.n0 p.n2)) (y_mul (a := cdv p.n0 p.n2) (b := p.n1) (c := p.n1 * cdv p.n0 p.n2) rfl rfl (nb_wrap2 (by omega) (by omega) (by omega) (by omega))) rfl ?_
    refine s_y (v := .int .i64 ((p.n1 * cdv p.n0 p.n2) + 1)) (y_add (a := p.n1 * cdv p.n0 p.n2) (b := 1) (c := (p.n1 * cdv p.n0 p.n2) + 1) rfl rfl (wI rfl (by omega) (by omega))) rfl ?_
    refine s_y (v := .int .i64 ((((pad ((p.n1 * cdv p.n0 p.n2) + 1)) : Nat) : Int))) (y_call (args := #[.int .i64 ((p.n1 * cdv p.n0 p.n2) + 1)]) (v := .int .i64 ((((pad ((p.n1 * cdv p.n0 p.n2) + 1)) : Nat) : Int))) Try.call57 (ev1 rfl) (fun w hs => rpad_c ((p.n1 * cdv p.n0 p.n2) + 1) (by omega) (by omega) w)) rfl ?_
    refine s_y (v := .int .i64 (cdv p.n0 p.n2)) (y_assign rfl) rfl ?_
    refine s_y (v := .int .i64 ((((pad ((p.n1 * cdv p.n0 p.n2) + 1)) : Nat) : Int))) (y_assign rfl) rfl ?_
    refine wpL_nil ?_
    refine thenS_n ?_
    refine wpS_ret ?_
    refine fin2 (M := []) (.inr rfl) (.nil) Try.results63 (rvT (v := .int .i64 (cdv p.n0 p.n2)) rfl) (rvT (v := .int .i64 ((((pad ((p.n1 * cdv p.n0 p.n2) + 1)) : Nat) : Int))) rfl) ?_
    exact fun w' hs => ⟨by rw [bk_yes hbp, sl_yes hbp] <;> rfl, hs⟩

theorem blocks_c (p : Par) (w : World) : Pure Try.prog 135 #[.agg #[.int .i64 (p.n0), .int .i64 (p.n1), .int .i64 (p.n2), .int .i64 (p.n3)]] w (.tuple #[.int .i64 (bk p), .int .i64 ((((sl p) : Nat) : Int))]) := by
  refine calls_S (n := 22) (σ0 := (upd fr0 0 (.agg #[.int .i64 (p.n0), .int .i64 (p.n1), .int .i64 (p.n2), .int .i64 (p.n3)]))) (D := []) (A := []) Try.func135 rfl Try.ntmps135 rfl (a1_fr _) (SH.start w) ?_
  refine wpS_seq ?_
  refine wpS_region ?_
  refine s_e rfl ?_
  refine e_box (v := .agg #[.int .i64 (p.n0), .int .i64 (p.n1), .int .i64 (p.n2), .int .i64 (p.n3)]) (l := [.int .i64 (p.n0), .int .i64 (p.n1), .int .i64 (p.n2), .int .i64 (p.n3)]) rfl rfl ?_
  intro b_1
  refine s_y (v := .int .i64 0) (y_assign rfl) rfl ?_
  refine s_y (v := .int .i64 0) (y_assign rfl) rfl ?_
  refine wpL_nil ?_
  refine thenS_n ?_
  refine wpS_seq ?_
  refine wpS_seq ?_
  refine wpS_region ?_
  refine s_y (v := .agg #[.int .i64 (p.n0), .int .i64 (p.n1), .int .i64 (p.n2), .int .i64 (p.n3)]) (y_loadN (vs := [.int .i64 (p.n0), .int .i64 (p.n1), .int .i64 (p.n2), .int .i64 (p.n3)]) rfl Try.isAgg53 Try.sizeOf53 (ownN .h rfl)) rfl ?_
  refine s_y (v := .int .i64 (bad p)) (y_call (args := #[.agg #[.int .i64 (p.n0), .int .i64 (p.n1), .int .i64 (p.n2), .int .i64 (p.n3)]]) (v := .int .i64 (bad p)) Try.call206 (ev1 rfl) (fun w hs => right_c p w)) rfl ?_
  refine s_y (v := .bool (decide ((bad p : Int) ≠ 0))) (y_neq (a := bad p) (b := 0) rfl rfl rfl) rfl ?_
  refine wpL_nil ?_
  refine thenS_n ?_
  refine wpS_cond (t := decide ((bad p : Int) ≠ 0)) rfl (fun b2 => ?_) (fun b2 => ?_)
  · -- decide ((bad p : Int) ≠ 0) true
    have p2 := of_decide_eq_true b2
    have hbp : ok p = false := bad_no p2
    refine wpS_seq ?_
    refine wpS_region ?_
    refine s_y (v := .int .i64 0) (y_assign rfl) rfl ?_
    refine s_y (v := .int .i64 0) (y_assign rfl) rfl ?_
    refine wpL_nil ?_
    refine thenS_n ?_
    refine wpS_ret ?_
    refine thenS_r ?_
    refine fin2 (M := []) (.inr rfl) (.nil) Try.results135 (rvT (v := .int .i64 0) rfl) (rvT (v := .int .i64 0) rfl) ?_
    exact fun w' hs => ⟨by rw [bk_no hbp, sl_no hbp] <;> rfl, hs⟩
  · -- decide ((bad p : Int) ≠ 0) false
    have p2 := of_decide_eq_false b2
    have hbp : ok p = true := bad_yes (Decidable.not_not.1 p2)
    have hbd := ok_bd hbp
    refine wpS_skip ?_
    refine thenS_n ?_
    refine wpS_seq ?_
    refine wpS_region ?_
    refine s_y (v := .pointer (some ⟨b_1, 0, none⟩)) (y_fieldAddr (o' := 0) rfl Try.underlying53 rfl Try.sizeOf3 (by decide) rfl) rfl ?_
    refine s_y (v := .int .i64 (p.n0)) (y_load1 rfl Try.isAgg3 (own1 .h rfl)) rfl ?_
    refine s_y (v := .int .i64 (p.n0 - 1)) (y_sub (a := p.n0) (b := 1) (c := p.n0 - 1) rfl rfl (wI rfl (by omega) (by omega))) rfl ?_
    refine s_y (v := .pointer (some ⟨b_1, 2, none⟩)) (y_fieldAddr (o' := 2) rfl Try.underlying53 rfl Try.sizeOf3 (by decide) rfl) rfl ?_
    refine s_y (v := .int .i64 (p.n2)) (y_load1 rfl Try.isAgg3 (own1 .h rfl)) rfl ?_
    have hq := q_bd (a := p.n0) (b := p.n2) (by omega) (by omega) (by omega)
    refine s_y (v := .int .i64 ((p.n0 - 1) / p.n2)) (y_quo (a := p.n0 - 1) (b := p.n2) (c := (p.n0 - 1) / p.n2) rfl rfl (by omega) (q_wrap (by omega) (by omega) (by omega))) rfl ?_
    have hc := cdv_bd (a := p.n0) (b := p.n2) (by omega) (by omega) (by omega)
    refine s_y (v := .int .i64 (cdv p.n0 p.n2)) (y_add (a := (p.n0 - 1) / p.n2) (b := 1) (c := cdv p.n0 p.n2) rfl rfl (wI rfl (by omega) (by omega))) rfl ?_
    refine s_y (v := .int .i64 (cdv p.n0 p.n2)) (y_assign rfl) rfl ?_
    refine wpL_nil ?_
    refine thenS_n ?_
    refine wpS_seq ?_
    refine wpS_region ?_
    refine s_y (v := .int .i64 (cdv p.n0 p.n2)) (y_move rfl) rfl ?_
    refine s_y (v := .pointer (some ⟨b_1, 1, none⟩)) (y_fieldAddr (o' := 1) rfl Try.underlying53 rfl Try.sizeOf3 (by decide) rfl) rfl ?_
    refine s_y (v := .int .i64 (p.n1)) (y_load1 rfl Try.isAgg3 (own1 .h rfl)) rfl ?_
    refine s_y (v := .int .i64 (cdv p.n0 p.n2)) (y_move rfl) rfl ?_
    have hnb := nb_bd (a := p.n1) (c := cdv p.n0 p.n2) (by omega) (by omega) (by omega) (by omega)
    refine s_y (v := .int .i64 (p.n1 * cdv p.n0 p.n2)) (y_mul (a := p.n1) (b := cdv p.n0 p.n2) (c := p.n1 * cdv p.n0 p.n2) rfl rfl (nb_wrap (by omega) (by omega) (by omega) (by omega))) rfl ?_
    refine s_y (v := .int .i64 ((p.n1 * cdv p.n0 p.n2) + 1)) (y_add (a := p.n1 * cdv p.n0 p.n2) (b := 1) (c := (p.n1 * cdv p.n0 p.n2) + 1) rfl rfl (wI rfl (by omega) (by omega))) rfl ?_
    refine s_y (v := .int .i64 ((((pad ((p.n1 * cdv p.n0 p.n2) + 1)) : Nat) : Int))) (y_call (args := #[.int .i64 ((p.n1 * cdv p.n0 p.n2) + 1)]) (v := .int .i64 ((((pad ((p.n1 * cdv p.n0 p.n2) + 1)) : Nat) : Int))) Try.call50 (ev1 rfl) (fun w hs => padded_c ((p.n1 * cdv p.n0 p.n2) + 1) (by omega) (by omega) w)) rfl ?_
    refine s_y (v := .int .i64 (cdv p.n0 p.n2)) (y_assign rfl) rfl ?_
    refine s_y (v := .int .i64 ((((pad ((p.n1 * cdv p.n0 p.n2) + 1)) : Nat) : Int))) (y_assign rfl) rfl ?_
    refine wpL_nil ?_
    refine thenS_n ?_
    refine wpS_ret ?_
    refine fin2 (M := []) (.inr rfl) (.nil) Try.results135 (rvT (v := .int .i64 (cdv p.n0 p.n2)) rfl) (rvT (v := .int .i64 ((((pad ((p.n1 * cdv p.n0 p.n2) + 1)) : Nat) : Int))) rfl) ?_
    exact fun w' hs => ⟨by rw [bk_yes hbp, sl_yes hbp] <;> rfl, hs⟩

theorem of_c (p : Par) (w : World) : Pure Try.prog 160 #[.agg #[.int .i64 (p.n0), .int .i64 (p.n1), .int .i64 (p.n2), .int .i64 (p.n3)]] w (.agg #[.int .i64 ((ofP p).q0), .int .i64 ((ofP p).q1), .int .i64 ((ofP p).q2), .int .i64 ((ofP p).q3), .int .i64 ((ofP p).q4), .int .i64 ((ofP p).q5), .int .i64 ((ofP p).q6), .int .i64 ((ofP p).q7), .int .i64 ((ofP p).q8), .int .i64 ((ofP p).q9)]) := by
  refine calls_S (n := 66) (σ0 := (upd fr0 0 (.agg #[.int .i64 (p.n0), .int .i64 (p.n1), .int .i64 (p.n2), .int .i64 (p.n3)]))) (D := []) (A := []) Try.func160 rfl Try.ntmps160 rfl (a1_fr _) (SH.start w) ?_
  have hs1 := sl_le p
  have hs2 := bk_bd p
  have hs3 := nbk_bd p
  have hs4 := rh_bd p
  have hs5 := rnd_le ((sl p : Nat) : Int)
  refine wpS_seq ?_
  refine wpS_region ?_
  refine s_e rfl ?_
  refine e_box (v := .agg #[.int .i64 (p.n0), .int .i64 (p.n1), .int .i64 (p.n2), .int .i64 (p.n3)]) (l := [.int .i64 (p.n0), .int .i64 (p.n1), .int .i64 (p.n2), .int .i64 (p.n3)]) rfl rfl ?_
  intro b_1
  refine s_e rfl ?_
  refine e_alloc (l := [.int .i64 0, .int .i64 0, .int .i64 0, .int .i64 0, .int .i64 0, .int .i64 0, .int .i64 0, .int .i64 0, .int .i64 0, .int .i64 0]) Try.zeroValue184 rfl ?_
  intro b_2
  refine wpL_nil ?_
  refine thenS_n ?_
  refine wpS_seq ?_
  refine wpS_region ?_
  refine s_y (v := .pointer (some ⟨b_1, 1, none⟩)) (y_fieldAddr (o' := 1) rfl Try.underlying53 rfl Try.sizeOf3 (by decide) rfl) rfl ?_
  refine s_y (v := .int .i64 (p.n1)) (y_load1 rfl Try.isAgg3 (own1 (.t .h) rfl)) rfl ?_
  refine s_y (v := .agg #[.int .i64 (p.n1), .int .i64 0, .int .i64 0, .int .i64 0, .int .i64 0, .int .i64 0, .int .i64 0, .int .i64 0, .int .i64 0, .int .i64 0]) (y_buildL (m := [(0, .int .i64 (p.n1))]) (vs := #[.int .i64 (p.n1), .int .i64 0, .int .i64 0, .int .i64 0, .int .i64 0, .int .i64 0, .int .i64 0, .int .i64 0, .int .i64 0, .int .i64 0]) (evc rfl evn) (fun w => by kernel_rfl)) rfl ?_
  refine s_e rfl ?_
  refine e_alloc (l := [.int .i64 0, .int .i64 0, .int .i64 0, .int .i64 0, .int .i64 0, .int .i64 0, .int .i64 0, .int .i64 0, .int .i64 0, .int .i64 0]) Try.zeroValue184 rfl ?_
  intro b_3
  refine s_e0 ?_
  refine e_store (vs := [.int .i64 (p.n1), .int .i64 0, .int .i64 0, .int .i64 0, .int .i64 0, .int .i64 0, .int .i64 0, .int .i64 0, .int .i64 0, .int .i64 0]) (l' := [.int .i64 (p.n1), .int .i64 0, .int .i64 0, .int .i64 0, .int .i64 0, .int .i64 0, .int .i64 0, .int .i64 0, .int .i64 0, .int .i64 0]) rfl rfl rfl rfl Try.sizeOf184 .h (Nat.le_of_ble_eq_true rfl) rfl ?_
  refine wpL_nil ?_
  refine thenS_n ?_
  refine wpS_seq ?_
  refine wpS_region ?_
  refine s_y (v := .agg #[.int .i64 (p.n0), .int .i64 (p.n1), .int .i64 (p.n2), .int .i64 (p.n3)]) (y_loadN (vs := [.int .i64 (p.n0), .int .i64 (p.n1), .int .i64 (p.n2), .int .i64 (p.n3)]) rfl Try.isAgg53 Try.sizeOf53 (ownN (.t (.t .h)) rfl)) rfl ?_
  refine s_y (v := .tuple #[.int .i64 (bk p), .int .i64 ((((sl p) : Nat) : Int))]) (y_call (args := #[.agg #[.int .i64 (p.n0), .int .i64 (p.n1), .int .i64 (p.n2), .int .i64 (p.n3)]]) (v := .tuple #[.int .i64 (bk p), .int .i64 ((((sl p) : Nat) : Int))]) Try.call135 (ev1 rfl) (fun w hs => blocks_c p w)) rfl ?_
  refine s_y (v := .tuple #[.int .i64 (bk p), .int .i64 ((((sl p) : Nat) : Int))]) (y_move rfl) rfl ?_
  refine s_y (v := .int .i64 (bk p)) (y_extract (v := .int .i64 (bk p)) rfl rfl) rfl ?_
  refine s_y (v := .int .i64 ((((sl p) : Nat) : Int))) (y_extract (v := .int .i64 ((((sl p) : Nat) : Int))) rfl rfl) rfl ?_
  refine s_y (v := .pointer (some ⟨b_3, 1, none⟩)) (y_fieldAddr (o' := 1) rfl Try.underlying184 rfl Try.sizeOf3 (by decide) rfl) rfl ?_
  refine s_e0 ?_
  refine e_store (vs := [.int .i64 (bk p)]) (l' := [.int .i64 (p.n1), .int .i64 (bk p), .int .i64 0, .int .i64 0, .int .i64 0, .int .i64 0, .int .i64 0, .int .i64 0, .int .i64 0, .int .i64 0]) rfl rfl rfl rfl Try.sizeOf3 .h (Nat.le_of_ble_eq_true rfl) rfl ?_
  refine s_y (v := .pointer (some ⟨b_3, 2, none⟩)) (y_fieldAddr (o' := 2) rfl Try.underlying184 rfl Try.sizeOf3 (by decide) rfl) rfl ?_
  refine s_e0 ?_
  refine e_store (vs := [.int .i64 ((((sl p) : Nat) : Int))]) (l' := [.int .i64 (p.n1), .int .i64 (bk p), .int .i64 ((((sl p) : Nat) : Int)), .int .i64 0, .int .i64 0, .int .i64 0, .int .i64 0, .int .i64 0, .int .i64 0, .int .i64 0]) rfl rfl rfl rfl Try.sizeOf3 .h (Nat.le_of_ble_eq_true rfl) rfl ?_
  refine wpL_nil ?_
  refine thenS_n ?_
  refine wpS_seq ?_
  refine wpS_seq ?_
  refine wpS_region ?_
  refine s_y (v := .pointer (some ⟨b_3, 2, none⟩)) (y_fieldAddr (o' := 2) rfl Try.underlying184 rfl Try.sizeOf3 (by decide) rfl) rfl ?_
  refine s_y (v := .int .i64 ((((sl p) : Nat) : Int))) (y_load1 rfl Try.isAgg3 (own1 .h rfl)) rfl ?_
  refine s_y (v := .bool (decide (((sl p) : Nat) = 0))) (y_eql (a := (((sl p) : Nat) : Int)) (b := 0) (c := decide (((sl p) : Nat) = 0)) rfl rfl (decide_eq_decide.2 (by omega))) rfl ?_
  refine wpL_nil ?_
  refine thenS_n ?_
  refine wpS_cond (t := decide (((sl p) : Nat) = 0)) rfl (fun b4 => ?_) (fun b4 => ?_)
  · -- decide (((sl p) : Nat) = 0) true
    have p4 := of_decide_eq_true b4
    have hbp : ok p = false := sl_0 p4
    refine wpS_seq ?_
    refine wpS_region ?_
    refine s_y (v := .agg #[.int .i64 0, .int .i64 0, .int .i64 0, .int .i64 0, .int .i64 0, .int .i64 0, .int .i64 0, .int .i64 0, .int .i64 0, .int .i64 0]) (y_buildL (m := []) (vs := #[.int .i64 0, .int .i64 0, .int .i64 0, .int .i64 0, .int .i64 0, .int .i64 0, .int .i64 0, .int .i64 0, .int .i64 0, .int .i64 0]) evn (fun w => by kernel_rfl)) rfl ?_
    refine s_e0 ?_
    refine e_store (vs := [.int .i64 0, .int .i64 0, .int .i64 0, .int .i64 0, .int .i64 0, .int .i64 0, .int .i64 0, .int .i64 0, .int .i64 0, .int .i64 0]) (l' := [.int .i64 0, .int .i64 0, .int .i64 0, .int .i64 0, .int .i64 0, .int .i64 0, .int .i64 0, .int .i64 0, .int .i64 0, .int .i64 0]) rfl rfl rfl rfl Try.sizeOf184 (.t .h) (Nat.le_of_ble_eq_true rfl) rfl ?_
    refine wpL_nil ?_
    refine thenS_n ?_
    refine wpS_ret ?_
    refine thenS_r ?_
    refine fin1' (M := [cel b_2 184 [.int .i64 0, .int .i64 0, .int .i64 0, .int .i64 0, .int .i64 0, .int .i64 0, .int .i64 0, .int .i64 0, .int .i64 0, .int .i64 0]]) (.inr rfl) (.p .h .nil) Try.results160 (rvC (vs := [.int .i64 0, .int .i64 0, .int .i64 0, .int .i64 0, .int .i64 0, .int .i64 0, .int .i64 0, .int .i64 0, .int .i64 0, .int .i64 0]) rfl Try.isAgg184 Try.sizeOf184 (fun w hs => ownN .h rfl w hs)) ?_
    intro w' hs; exact ⟨congrArg (fun q : Plan => Ending.returned (.agg (planV q).toArray)) (ofP_no hbp).symm, SH.dropAll (L := []) [_] hs⟩
  · -- decide (((sl p) : Nat) = 0) false
    have p4 := of_decide_eq_false b4
    have hbp : ok p = true := sl_1 p4
    refine wpS_skip ?_
    refine thenS_n ?_
    refine wpS_seq ?_
    refine wpS_anyL [cel b_3 184 [.int .i64 (p.n1), .int .i64 (bk p), .int .i64 ((((sl p) : Nat) : Int)), .int .i64 0, .int .i64 0, .int .i64 0, .int .i64 0, .int .i64 0, .int .i64 0, .int .i64 0]] [5, 7, 8, 9] (by kernel_rfl) ?_
    refine anyS_take (i := 3) rfl (by kernel_rfl) (by kernel_rfl) (by kernel_rfl) (by kernel_rfl) (Yq.of (v := .pointer (some ⟨b_3, 2, none⟩)) (y_fieldAddr (o' := 2) rfl Try.underlying184 rfl Try.sizeOf3 (by decide) rfl) rfl) (.p .h .nil) ?_
    refine anyS_take (i := 4) rfl (by kernel_rfl) (by kernel_rfl) (by kernel_rfl) (by kernel_rfl) (Yq.of (v := .int .i64 ((((sl p) : Nat) : Int))) (y_load1 rfl Try.isAgg3 (own1 .h rfl)) rfl) (.p .h .nil) ?_
    refine anyS_takeF (i := 5) rfl (by kernel_rfl) (by kernel_rfl) (by kernel_rfl) (by kernel_rfl) (Yq.of (v := .int .i64 (((((sl p) / 2) : Nat) : Int))) (y_quo (a := (((sl p) : Nat) : Int)) (b := 2) (c := ((((sl p) / 2) : Nat) : Int)) rfl rfl (by omega) (n_quo _ 2 (by omega) (by omega))) rfl) ?_
    refine anyS_take (i := 0) rfl (by kernel_rfl) (by kernel_rfl) (by kernel_rfl) (by kernel_rfl) (Yq.of (v := .pointer (some ⟨b_3, 2, none⟩)) (y_fieldAddr (o' := 2) rfl Try.underlying184 rfl Try.sizeOf3 (by decide) rfl) rfl) (.p .h .nil) ?_
    refine anyS_take (i := 1) rfl (by kernel_rfl) (by kernel_rfl) (by kernel_rfl) (by kernel_rfl) (Yq.of (v := .int .i64 ((((sl p) : Nat) : Int))) (y_load1 rfl Try.isAgg3 (own1 .h rfl)) rfl) (.p .h .nil) ?_
    refine anyS_take (i := 2) rfl (by kernel_rfl) (by kernel_rfl) (by kernel_rfl) (by kernel_rfl) (Yq.of (v := .int .i64 ((((rnd ((((sl p) : Nat) : Int))) : Nat) : Int))) (y_call (args := #[.int .i64 ((((sl p) : Nat) : Int))]) (v := .int .i64 ((((rnd ((((sl p) : Nat) : Int))) : Nat) : Int))) Try.call52 (ev1 rfl) (fun w hs => rounds_c ((((sl p) : Nat) : Int)) (by omega) (by omega) w)) rfl) (.p .h .nil) ?_
    refine anyS_take (i := 6) rfl (by kernel_rfl) (by kernel_rfl) (by kernel_rfl) (by kernel_rfl) (Yq.of (v := .pointer (some ⟨b_3, 3, none⟩)) (y_fieldAddr (o' := 3) rfl Try.underlying184 rfl Try.sizeOf3 (by decide) rfl) rfl) (.p .h .nil) ?_
    refine anyS_all (rs := [7]) (by kernel_rfl) (by simp) ?_
    intro i hi; obtain rfl := List.mem_singleton.1 hi; clear hi
    refine opS_0 rfl rfl ?_
    refine e_store (vs := [.int .i64 ((((rnd ((((sl p) : Nat) : Int))) : Nat) : Int))]) (l' := [.int .i64 (p.n1), .int .i64 (bk p), .int .i64 ((((sl p) : Nat) : Int)), .int .i64 ((((rnd ((((sl p) : Nat) : Int))) : Nat) : Int)), .int .i64 0, .int .i64 0, .int .i64 0, .int .i64 0, .int .i64 0, .int .i64 0]) rfl rfl rfl rfl Try.sizeOf3 .h (Nat.le_of_ble_eq_true rfl) rfl ?_
    refine ⟨.inl (by simp), ?_⟩
    refine anyS_all (rs := [8]) (by kernel_rfl) (by simp) ?_
    intro i hi; obtain rfl := List.mem_singleton.1 hi; clear hi
    refine opS_0 rfl rfl ?_
    refine OpE.y (v := .pointer (some ⟨b_3, 4, none⟩)) (y_fieldAddr (o' := 4) rfl Try.underlying184 rfl Try.sizeOf3 (by decide) rfl) ?_
    refine ⟨.inl (by simp), ?_⟩
    refine anyS_all (rs := [9]) (by kernel_rfl) (by simp) ?_
    intro i hi; obtain rfl := List.mem_singleton.1 hi; clear hi
    refine opS_0 rfl rfl ?_
    refine e_store (vs := [.int .i64 (((((sl p) / 2) : Nat) : Int))]) (l' := [.int .i64 (p.n1), .int .i64 (bk p), .int .i64 ((((sl p) : Nat) : Int)), .int .i64 ((((rnd ((((sl p) : Nat) : Int))) : Nat) : Int)), .int .i64 (((((sl p) / 2) : Nat) : Int)), .int .i64 0, .int .i64 0, .int .i64 0, .int .i64 0, .int .i64 0]) rfl rfl rfl rfl Try.sizeOf3 .h (Nat.le_of_ble_eq_true rfl) rfl ?_
    refine ⟨.inl (by simp), ?_⟩
    refine anyS_done (by kernel_rfl) ?_
    refine thenS_n ?_
    refine wpS_seq ?_
    refine wpS_region ?_
    refine s_y (v := .pointer (some ⟨b_3, 1, none⟩)) (y_fieldAddr (o' := 1) rfl Try.underlying184 rfl Try.sizeOf3 (by decide) rfl) rfl ?_
    refine s_y (v := .int .i64 (bk p)) (y_load1 rfl Try.isAgg3 (own1 .h rfl)) rfl ?_
    refine s_y (v := .pointer (some ⟨b_3, 5, none⟩)) (y_fieldAddr (o' := 5) rfl Try.underlying184 rfl Try.sizeOf3 (by decide) rfl) rfl ?_
    refine s_e0 ?_
    refine e_store (vs := [.int .i64 (bk p)]) (l' := [.int .i64 (p.n1), .int .i64 (bk p), .int .i64 ((((sl p) : Nat) : Int)), .int .i64 ((((rnd ((((sl p) : Nat) : Int))) : Nat) : Int)), .int .i64 (((((sl p) / 2) : Nat) : Int)), .int .i64 (bk p), .int .i64 0, .int .i64 0, .int .i64 0, .int .i64 0]) rfl rfl rfl rfl Try.sizeOf3 .h (Nat.le_of_ble_eq_true rfl) rfl ?_
    refine wpL_nil ?_
    refine thenS_n ?_
    refine wpS_seq ?_
    refine wpS_region ?_
    refine s_y (v := .pointer (some ⟨b_3, 5, none⟩)) (y_fieldAddr (o' := 5) rfl Try.underlying184 rfl Try.sizeOf3 (by decide) rfl) rfl ?_
    refine s_y (v := .int .i64 (bk p)) (y_load1 rfl Try.isAgg3 (own1 .h rfl)) rfl ?_
    refine s_y (v := .pointer (some ⟨b_3, 2, none⟩)) (y_fieldAddr (o' := 2) rfl Try.underlying184 rfl Try.sizeOf3 (by decide) rfl) rfl ?_
    refine s_y (v := .int .i64 ((((sl p) : Nat) : Int))) (y_load1 rfl Try.isAgg3 (own1 .h rfl)) rfl ?_
    refine s_y (v := .int .i64 ((bk p) + (((sl p) : Nat) : Int))) (y_add (a := bk p) (b := (((sl p) : Nat) : Int)) (c := (bk p) + (((sl p) : Nat) : Int)) rfl rfl (wI rfl (by omega) (by omega))) rfl ?_
    refine s_y (v := .pointer (some ⟨b_3, 0, none⟩)) (y_fieldAddr (o' := 0) rfl Try.underlying184 rfl Try.sizeOf3 (by decide) rfl) rfl ?_
    refine s_y (v := .int .i64 (p.n1)) (y_load1 rfl Try.isAgg3 (own1 .h rfl)) rfl ?_
    refine s_y (v := .pointer (some ⟨b_3, 1, none⟩)) (y_fieldAddr (o' := 1) rfl Try.underlying184 rfl Try.sizeOf3 (by decide) rfl) rfl ?_
    refine s_y (v := .int .i64 (bk p)) (y_load1 rfl Try.isAgg3 (own1 .h rfl)) rfl ?_
    refine s_y (v := .int .i64 (p.n1 * bk p)) (y_mul (a := p.n1) (b := bk p) (c := p.n1 * bk p) rfl rfl (wI rfl (by omega) (by omega))) rfl ?_
    refine s_y (v := .int .i64 (((bk p) + (((sl p) : Nat) : Int)) - (p.n1 * bk p))) (y_sub (a := (bk p) + (((sl p) : Nat) : Int)) (b := p.n1 * bk p) (c := ((bk p) + (((sl p) : Nat) : Int)) - (p.n1 * bk p)) rfl rfl (wI rfl (by omega) (by omega))) rfl ?_
    refine s_y (v := .pointer (some ⟨b_3, 6, none⟩)) (y_fieldAddr (o' := 6) rfl Try.underlying184 rfl Try.sizeOf3 (by decide) rfl) rfl ?_
    refine s_e0 ?_
    refine e_store (vs := [.int .i64 (((bk p) + (((sl p) : Nat) : Int)) - (p.n1 * bk p))]) (l' := [.int .i64 (p.n1), .int .i64 (bk p), .int .i64 ((((sl p) : Nat) : Int)), .int .i64 ((((rnd ((((sl p) : Nat) : Int))) : Nat) : Int)), .int .i64 (((((sl p) / 2) : Nat) : Int)), .int .i64 (bk p), .int .i64 (((bk p) + (((sl p) : Nat) : Int)) - (p.n1 * bk p)), .int .i64 0, .int .i64 0, .int .i64 0]) rfl rfl rfl rfl Try.sizeOf3 .h (Nat.le_of_ble_eq_true rfl) rfl ?_
    refine wpL_nil ?_
    refine thenS_n ?_
    refine wpS_seq ?_
    refine wpS_region ?_
    refine s_y (v := .pointer (some ⟨b_3, 6, none⟩)) (y_fieldAddr (o' := 6) rfl Try.underlying184 rfl Try.sizeOf3 (by decide) rfl) rfl ?_
    refine s_y (v := .int .i64 (((bk p) + (((sl p) : Nat) : Int)) - (p.n1 * bk p))) (y_load1 rfl Try.isAgg3 (own1 .h rfl)) rfl ?_
    refine s_y (v := .pointer (some ⟨b_3, 3, none⟩)) (y_fieldAddr (o' := 3) rfl Try.underlying184 rfl Try.sizeOf3 (by decide) rfl) rfl ?_
    refine s_y (v := .int .i64 ((((rnd ((((sl p) : Nat) : Int))) : Nat) : Int))) (y_load1 rfl Try.isAgg3 (own1 .h rfl)) rfl ?_
    refine s_y (v := .pointer (some ⟨b_3, 4, none⟩)) (y_fieldAddr (o' := 4) rfl Try.underlying184 rfl Try.sizeOf3 (by decide) rfl) rfl ?_
    refine s_y (v := .int .i64 (((((sl p) / 2) : Nat) : Int))) (y_load1 rfl Try.isAgg3 (own1 .h rfl)) rfl ?_
    refine s_y (v := .int .i64 ((((rh p) : Nat) : Int))) (y_mul (a := (((rnd ((((sl p) : Nat) : Int))) : Nat) : Int)) (b := ((((sl p) / 2) : Nat) : Int)) (c := (((rh p) : Nat) : Int)) rfl rfl (rh_wrap p)) rfl ?_
    refine s_y (v := .int .i64 (((bk p) + (((sl p) : Nat) : Int)) - (p.n1 * bk p) + ((rh p : Nat) : Int))) (y_add (a := ((bk p) + (((sl p) : Nat) : Int)) - (p.n1 * bk p)) (b := (((rh p) : Nat) : Int)) (c := ((bk p) + (((sl p) : Nat) : Int)) - (p.n1 * bk p) + ((rh p : Nat) : Int)) rfl rfl (wI rfl (by omega) (by omega))) rfl ?_
    refine s_y (v := .pointer (some ⟨b_3, 7, none⟩)) (y_fieldAddr (o' := 7) rfl Try.underlying184 rfl Try.sizeOf3 (by decide) rfl) rfl ?_
    refine s_e0 ?_
    refine e_store (vs := [.int .i64 (((bk p) + (((sl p) : Nat) : Int)) - (p.n1 * bk p) + ((rh p : Nat) : Int))]) (l' := [.int .i64 (p.n1), .int .i64 (bk p), .int .i64 ((((sl p) : Nat) : Int)), .int .i64 ((((rnd ((((sl p) : Nat) : Int))) : Nat) : Int)), .int .i64 (((((sl p) / 2) : Nat) : Int)), .int .i64 (bk p), .int .i64 (((bk p) + (((sl p) : Nat) : Int)) - (p.n1 * bk p)), .int .i64 (((bk p) + (((sl p) : Nat) : Int)) - (p.n1 * bk p) + ((rh p : Nat) : Int)), .int .i64 0, .int .i64 0]) rfl rfl rfl rfl Try.sizeOf3 .h (Nat.le_of_ble_eq_true rfl) rfl ?_
    refine wpL_nil ?_
    refine thenS_n ?_
    refine wpS_seq ?_
    refine wpS_region ?_
    refine s_y (v := .pointer (some ⟨b_3, 7, none⟩)) (y_fieldAddr (o' := 7) rfl Try.underlying184 rfl Try.sizeOf3 (by decide) rfl) rfl ?_
    refine s_y (v := .int .i64 (((bk p) + (((sl p) : Nat) : Int)) - (p.n1 * bk p) + ((rh p : Nat) : Int))) (y_load1 rfl Try.isAgg3 (own1 .h rfl)) rfl ?_
    refine s_y (v := .pointer (some ⟨b_3, 2, none⟩)) (y_fieldAddr (o' := 2) rfl Try.underlying184 rfl Try.sizeOf3 (by decide) rfl) rfl ?_
    refine s_y (v := .int .i64 ((((sl p) : Nat) : Int))) (y_load1 rfl Try.isAgg3 (own1 .h rfl)) rfl ?_
    refine s_y (v := .int .i64 ((((bk p) + (((sl p) : Nat) : Int)) - (p.n1 * bk p) + ((rh p : Nat) : Int)) + (((sl p) : Nat) : Int))) (y_add (a := ((bk p) + (((sl p) : Nat) : Int)) - (p.n1 * bk p) + ((rh p : Nat) : Int)) (b := (((sl p) : Nat) : Int)) (c := (((bk p) + (((sl p) : Nat) : Int)) - (p.n1 * bk p) + ((rh p : Nat) : Int)) + (((sl p) : Nat) : Int)) rfl rfl (wI rfl (by omega) (by omega))) rfl ?_
    refine s_y (v := .pointer (some ⟨b_3, 8, none⟩)) (y_fieldAddr (o' := 8) rfl Try.underlying184 rfl Try.sizeOf3 (by decide) rfl) rfl ?_
    refine s_e0 ?_
    refine e_store (vs := [.int .i64 ((((bk p) + (((sl p) : Nat) : Int)) - (p.n1 * bk p) + ((rh p : Nat) : Int)) + (((sl p) : Nat) : Int))]) (l' := [.int .i64 (p.n1), .int .i64 (bk p), .int .i64 ((((sl p) : Nat) : Int)), .int .i64 ((((rnd ((((sl p) : Nat) : Int))) : Nat) : Int)), .int .i64 (((((sl p) / 2) : Nat) : Int)), .int .i64 (bk p), .int .i64 (((bk p) + (((sl p) : Nat) : Int)) - (p.n1 * bk p)), .int .i64 (((bk p) + (((sl p) : Nat) : Int)) - (p.n1 * bk p) + ((rh p : Nat) : Int)), .int .i64 ((((bk p) + (((sl p) : Nat) : Int)) - (p.n1 * bk p) + ((rh p : Nat) : Int)) + (((sl p) : Nat) : Int)), .int .i64 0]) rfl rfl rfl rfl Try.sizeOf3 .h (Nat.le_of_ble_eq_true rfl) rfl ?_
    refine wpL_nil ?_
    refine thenS_n ?_
    refine wpS_seq ?_
    refine wpS_region ?_
    refine s_y (v := .pointer (some ⟨b_3, 8, none⟩)) (y_fieldAddr (o' := 8) rfl Try.underlying184 rfl Try.sizeOf3 (by decide) rfl) rfl ?_
    refine s_y (v := .int .i64 ((((bk p) + (((sl p) : Nat) : Int)) - (p.n1 * bk p) + ((rh p : Nat) : Int)) + (((sl p) : Nat) : Int))) (y_load1 rfl Try.isAgg3 (own1 .h rfl)) rfl ?_
    refine s_y (v := .pointer (some ⟨b_3, 3, none⟩)) (y_fieldAddr (o' := 3) rfl Try.underlying184 rfl Try.sizeOf3 (by decide) rfl) rfl ?_
    refine s_y (v := .int .i64 ((((rnd ((((sl p) : Nat) : Int))) : Nat) : Int))) (y_load1 rfl Try.isAgg3 (own1 .h rfl)) rfl ?_
    refine s_y (v := .pointer (some ⟨b_3, 4, none⟩)) (y_fieldAddr (o' := 4) rfl Try.underlying184 rfl Try.sizeOf3 (by decide) rfl) rfl ?_
    refine s_y (v := .int .i64 (((((sl p) / 2) : Nat) : Int))) (y_load1 rfl Try.isAgg3 (own1 .h rfl)) rfl ?_
    refine s_y (v := .int .i64 ((((rh p) : Nat) : Int))) (y_mul (a := (((rnd ((((sl p) : Nat) : Int))) : Nat) : Int)) (b := ((((sl p) / 2) : Nat) : Int)) (c := (((rh p) : Nat) : Int)) rfl rfl (rh_wrap p)) rfl ?_
    refine s_y (v := .int .i64 ((((bk p) + (((sl p) : Nat) : Int)) - (p.n1 * bk p) + ((rh p : Nat) : Int)) + (((sl p) : Nat) : Int) + ((rh p : Nat) : Int))) (y_add (a := (((bk p) + (((sl p) : Nat) : Int)) - (p.n1 * bk p) + ((rh p : Nat) : Int)) + (((sl p) : Nat) : Int)) (b := (((rh p) : Nat) : Int)) (c := (((bk p) + (((sl p) : Nat) : Int)) - (p.n1 * bk p) + ((rh p : Nat) : Int)) + (((sl p) : Nat) : Int) + ((rh p : Nat) : Int)) rfl rfl (wI rfl (by omega) (by omega))) rfl ?_
    refine s_y (v := .pointer (some ⟨b_3, 9, none⟩)) (y_fieldAddr (o' := 9) rfl Try.underlying184 rfl Try.sizeOf3 (by decide) rfl) rfl ?_
    refine s_e0 ?_
    refine e_store (vs := [.int .i64 ((((bk p) + (((sl p) : Nat) : Int)) - (p.n1 * bk p) + ((rh p : Nat) : Int)) + (((sl p) : Nat) : Int) + ((rh p : Nat) : Int))]) (l' := [.int .i64 (p.n1), .int .i64 (bk p), .int .i64 ((((sl p) : Nat) : Int)), .int .i64 ((((rnd ((((sl p) : Nat) : Int))) : Nat) : Int)), .int .i64 (((((sl p) / 2) : Nat) : Int)), .int .i64 (bk p), .int .i64 (((bk p) + (((sl p) : Nat) : Int)) - (p.n1 * bk p)), .int .i64 (((bk p) + (((sl p) : Nat) : Int)) - (p.n1 * bk p) + ((rh p : Nat) : Int)), .int .i64 ((((bk p) + (((sl p) : Nat) : Int)) - (p.n1 * bk p) + ((rh p : Nat) : Int)) + (((sl p) : Nat) : Int)), .int .i64 ((((bk p) + (((sl p) : Nat) : Int)) - (p.n1 * bk p) + ((rh p : Nat) : Int)) + (((sl p) : Nat) : Int) + ((rh p : Nat) : Int))]) rfl rfl rfl rfl Try.sizeOf3 .h (Nat.le_of_ble_eq_true rfl) rfl ?_
    refine wpL_nil ?_
    refine thenS_n ?_
    refine wpS_seq ?_
    refine wpS_region ?_
    refine s_y (v := .agg #[.int .i64 (p.n1), .int .i64 (bk p), .int .i64 ((((sl p) : Nat) : Int)), .int .i64 ((((rnd ((((sl p) : Nat) : Int))) : Nat) : Int)), .int .i64 (((((sl p) / 2) : Nat) : Int)), .int .i64 (bk p), .int .i64 (((bk p) + (((sl p) : Nat) : Int)) - (p.n1 * bk p)), .int .i64 (((bk p) + (((sl p) : Nat) : Int)) - (p.n1 * bk p) + ((rh p : Nat) : Int)), .int .i64 ((((bk p) + (((sl p) : Nat) : Int)) - (p.n1 * bk p) + ((rh p : Nat) : Int)) + (((sl p) : Nat) : Int)), .int .i64 ((((bk p) + (((sl p) : Nat) : Int)) - (p.n1 * bk p) + ((rh p : Nat) : Int)) + (((sl p) : Nat) : Int) + ((rh p : Nat) : Int))]) (y_loadN (vs := [.int .i64 (p.n1), .int .i64 (bk p), .int .i64 ((((sl p) : Nat) : Int)), .int .i64 ((((rnd ((((sl p) : Nat) : Int))) : Nat) : Int)), .int .i64 (((((sl p) / 2) : Nat) : Int)), .int .i64 (bk p), .int .i64 (((bk p) + (((sl p) : Nat) : Int)) - (p.n1 * bk p)), .int .i64 (((bk p) + (((sl p) : Nat) : Int)) - (p.n1 * bk p) + ((rh p : Nat) : Int)), .int .i64 ((((bk p) + (((sl p) : Nat) : Int)) - (p.n1 * bk p) + ((rh p : Nat) : Int)) + (((sl p) : Nat) : Int)), .int .i64 ((((bk p) + (((sl p) : Nat) : Int)) - (p.n1 * bk p) + ((rh p : Nat) : Int)) + (((sl p) : Nat) : Int) + ((rh p : Nat) : Int))]) rfl Try.isAgg184 Try.sizeOf184 (ownN .h rfl)) rfl ?_
    refine s_e0 ?_
    refine e_store (vs := [.int .i64 (p.n1), .int .i64 (bk p), .int .i64 ((((sl p) : Nat) : Int)), .int .i64 ((((rnd ((((sl p) : Nat) : Int))) : Nat) : Int)), .int .i64 (((((sl p) / 2) : Nat) : Int)), .int .i64 (bk p), .int .i64 (((bk p) + (((sl p) : Nat) : Int)) - (p.n1 * bk p)), .int .i64 (((bk p) + (((sl p) : Nat) : Int)) - (p.n1 * bk p) + ((rh p : Nat) : Int)), .int .i64 ((((bk p) + (((sl p) : Nat) : Int)) - (p.n1 * bk p) + ((rh p : Nat) : Int)) + (((sl p) : Nat) : Int)), .int .i64 ((((bk p) + (((sl p) : Nat) : Int)) - (p.n1 * bk p) + ((rh p : Nat) : Int)) + (((sl p) : Nat) : Int) + ((rh p : Nat) : Int))]) (l' := [.int .i64 (p.n1), .int .i64 (bk p), .int .i64 ((((sl p) : Nat) : Int)), .int .i64 ((((rnd ((((sl p) : Nat) : Int))) : Nat) : Int)), .int .i64 (((((sl p) / 2) : Nat) : Int)), .int .i64 (bk p), .int .i64 (((bk p) + (((sl p) : Nat) : Int)) - (p.n1 * bk p)), .int .i64 (((bk p) + (((sl p) : Nat) : Int)) - (p.n1 * bk p) + ((rh p : Nat) : Int)), .int .i64 ((((bk p) + (((sl p) : Nat) : Int)) - (p.n1 * bk p) + ((rh p : Nat) : Int)) + (((sl p) : Nat) : Int)), .int .i64 ((((bk p) + (((sl p) : Nat) : Int)) - (p.n1 * bk p) + ((rh p : Nat) : Int)) + (((sl p) : Nat) : Int) + ((rh p : Nat) : Int))]) rfl rfl rfl rfl Try.sizeOf184 (.t .h) (Nat.le_of_ble_eq_true rfl) rfl ?_
    refine wpL_nil ?_
    refine thenS_n ?_
    refine wpS_ret ?_
    refine fin1' (M := [cel b_2 184 [.int .i64 (p.n1), .int .i64 (bk p), .int .i64 ((((sl p) : Nat) : Int)), .int .i64 ((((rnd ((((sl p) : Nat) : Int))) : Nat) : Int)), .int .i64 (((((sl p) / 2) : Nat) : Int)), .int .i64 (bk p), .int .i64 (((bk p) + (((sl p) : Nat) : Int)) - (p.n1 * bk p)), .int .i64 (((bk p) + (((sl p) : Nat) : Int)) - (p.n1 * bk p) + ((rh p : Nat) : Int)), .int .i64 ((((bk p) + (((sl p) : Nat) : Int)) - (p.n1 * bk p) + ((rh p : Nat) : Int)) + (((sl p) : Nat) : Int)), .int .i64 ((((bk p) + (((sl p) : Nat) : Int)) - (p.n1 * bk p) + ((rh p : Nat) : Int)) + (((sl p) : Nat) : Int) + ((rh p : Nat) : Int))]]) (.inr rfl) (.p .h .nil) Try.results160 (rvC (vs := [.int .i64 (p.n1), .int .i64 (bk p), .int .i64 ((((sl p) : Nat) : Int)), .int .i64 ((((rnd ((((sl p) : Nat) : Int))) : Nat) : Int)), .int .i64 (((((sl p) / 2) : Nat) : Int)), .int .i64 (bk p), .int .i64 (((bk p) + (((sl p) : Nat) : Int)) - (p.n1 * bk p)), .int .i64 (((bk p) + (((sl p) : Nat) : Int)) - (p.n1 * bk p) + ((rh p : Nat) : Int)), .int .i64 ((((bk p) + (((sl p) : Nat) : Int)) - (p.n1 * bk p) + ((rh p : Nat) : Int)) + (((sl p) : Nat) : Int)), .int .i64 ((((bk p) + (((sl p) : Nat) : Int)) - (p.n1 * bk p) + ((rh p : Nat) : Int)) + (((sl p) : Nat) : Int) + ((rh p : Nat) : Int))]) rfl Try.isAgg184 Try.sizeOf184 (fun w hs => ownN .h rfl w hs)) ?_
    intro w' hs; exact ⟨congrArg (fun q : Plan => Ending.returned (.agg (planV q).toArray)) (ofP_yes hbp).symm, SH.dropAll (L := []) [_] hs⟩

theorem count_c (p : Par) (w : World) : Pure Try.prog 65 #[.agg #[.int .i64 (p.n0), .int .i64 (p.n1), .int .i64 (p.n2), .int .i64 (p.n3)]] w (.int .i64 ((ofP p).q9)) := by
  refine calls_S (n := 6) (σ0 := (upd fr0 0 (.agg #[.int .i64 (p.n0), .int .i64 (p.n1), .int .i64 (p.n2), .int .i64 (p.n3)]))) (D := []) (A := []) Try.func65 rfl Try.ntmps65 rfl (a1_fr _) (SH.start w) ?_
  refine wpS_seq ?_
  refine wpS_region ?_
  refine s_e rfl ?_
  refine e_box (v := .agg #[.int .i64 (p.n0), .int .i64 (p.n1), .int .i64 (p.n2), .int .i64 (p.n3)]) (l := [.int .i64 (p.n0), .int .i64 (p.n1), .int .i64 (p.n2), .int .i64 (p.n3)]) rfl rfl ?_
  intro b_1
  refine s_y (v := .int .i64 0) (y_assign rfl) rfl ?_
  refine wpL_nil ?_
  refine thenS_n ?_
  refine wpS_seq ?_
  refine wpS_region ?_
  refine s_y (v := .agg #[.int .i64 (p.n0), .int .i64 (p.n1), .int .i64 (p.n2), .int .i64 (p.n3)]) (y_loadN (vs := [.int .i64 (p.n0), .int .i64 (p.n1), .int .i64 (p.n2), .int .i64 (p.n3)]) rfl Try.isAgg53 Try.sizeOf53 (ownN .h rfl)) rfl ?_
  refine s_y (v := .agg #[.int .i64 ((ofP p).q0), .int .i64 ((ofP p).q1), .int .i64 ((ofP p).q2), .int .i64 ((ofP p).q3), .int .i64 ((ofP p).q4), .int .i64 ((ofP p).q5), .int .i64 ((ofP p).q6), .int .i64 ((ofP p).q7), .int .i64 ((ofP p).q8), .int .i64 ((ofP p).q9)]) (y_call (args := #[.agg #[.int .i64 (p.n0), .int .i64 (p.n1), .int .i64 (p.n2), .int .i64 (p.n3)]]) (v := .agg #[.int .i64 ((ofP p).q0), .int .i64 ((ofP p).q1), .int .i64 ((ofP p).q2), .int .i64 ((ofP p).q3), .int .i64 ((ofP p).q4), .int .i64 ((ofP p).q5), .int .i64 ((ofP p).q6), .int .i64 ((ofP p).q7), .int .i64 ((ofP p).q8), .int .i64 ((ofP p).q9)]) Try.call160 (ev1 rfl) (fun w hs => of_c p w)) rfl ?_
  refine s_y (v := .int .i64 ((ofP p).q9)) (y_fieldL (vs := #[.int .i64 ((ofP p).q0), .int .i64 ((ofP p).q1), .int .i64 ((ofP p).q2), .int .i64 ((ofP p).q3), .int .i64 ((ofP p).q4), .int .i64 ((ofP p).q5), .int .i64 ((ofP p).q6), .int .i64 ((ofP p).q7), .int .i64 ((ofP p).q8), .int .i64 ((ofP p).q9)]) (v := .int .i64 ((ofP p).q9)) rfl (fun w => by kernel_rfl)) rfl ?_
  refine s_y (v := .int .i64 ((ofP p).q9)) (y_assign rfl) rfl ?_
  refine wpL_nil ?_
  refine thenS_n ?_
  refine wpS_ret ?_
  refine fin1 (M := []) (v := .int .i64 ((ofP p).q9)) (.inr rfl) (.nil) Try.results65 rfl ?_
  exact fun w' hs => ⟨rfl, hs⟩

theorem awake17_c (w : World) : Pure Try.prog 64 #[] w (.bool true) := by
  refine calls_S (n := 4) (σ0 := fr0) (D := []) (A := []) Try.func64 rfl Try.ntmps64 rfl (a0_fr) (SH.start w) ?_
  refine wpS_seq ?_
  refine wpS_region ?_
  refine s_y (v := .bool false) (y_assign rfl) rfl ?_
  refine wpL_nil ?_
  refine thenS_n ?_
  refine wpS_seq ?_
  refine wpS_region ?_
  refine s_y (v := .agg #[.int .i64 1, .int .i64 1, .int .i64 1, .int .i64 1]) (y_buildL (m := [(0, .int .i64 1), (1, .int .i64 1), (2, .int .i64 1), (3, .int .i64 1)]) (vs := #[.int .i64 1, .int .i64 1, .int .i64 1, .int .i64 1]) (evc rfl (evc rfl (evc rfl (evc rfl evn)))) (fun w => by kernel_rfl)) rfl ?_
  refine s_y (v := .int .i64 ((ofP (Par.mk 1 1 1 1)).q9)) (y_call (args := #[.agg #[.int .i64 1, .int .i64 1, .int .i64 1, .int .i64 1]]) (v := .int .i64 ((ofP (Par.mk 1 1 1 1)).q9)) Try.call65 (ev1 rfl) (fun w hs => count_c (Par.mk 1 1 1 1) w)) rfl ?_
  refine s_y (v := .bool (decide (((ofP (Par.mk 1 1 1 1)).q9 : Int) = 6))) (y_eql (a := (ofP (Par.mk 1 1 1 1)).q9) (b := 6) rfl rfl rfl) rfl ?_
  refine s_y (v := .bool (decide (((ofP (Par.mk 1 1 1 1)).q9 : Int) = 6))) (y_assign rfl) rfl ?_
  refine wpL_nil ?_
  refine thenS_n ?_
  refine wpS_ret ?_
  refine fin1 (M := []) (v := .bool (decide (((ofP (Par.mk 1 1 1 1)).q9 : Int) = 6))) (.inr rfl) (.nil) Try.results64 rfl ?_
  exact fun w' hs => ⟨(by kernel_rfl), hs⟩

theorem behind_c (a b c d : Int) (w : World) : Pure Try.prog 161 #[.int .i64 a, .int .i64 b, .int .i64 c, .int .i64 d] w (.agg #[.int .i64 ((behind a b c d).s0), .int .i64 ((behind a b c d).s1), .int .i64 ((behind a b c d).s2)]) := by
  refine calls_S (n := 18) (σ0 := (upd (upd (upd (upd fr0 0 (.int .i64 a)) 1 (.int .i64 b)) 2 (.int .i64 c)) 3 (.int .i64 d))) (D := []) (A := []) Try.func161 rfl Try.ntmps161 rfl (a4_fr _ _ _ _) (SH.start w) ?_
  refine wpS_seq ?_
  refine wpS_region ?_
  refine s_e rfl ?_
  refine e_alloc (l := [.int .i64 0, .int .i64 0, .int .i64 0]) Try.zeroValue144 rfl ?_
  intro b_1
  refine wpL_nil ?_
  refine thenS_n ?_
  refine wpS_seq ?_
  refine wpS_seq ?_
  refine wpS_region ?_
  refine s_y (v := .int .i64 c) (y_move rfl) rfl ?_
  refine s_y (v := .bool (decide ((c : Int) = 0))) (y_eql (a := c) (b := 0) rfl rfl rfl) rfl ?_
  refine wpL_nil ?_
  refine thenS_n ?_
  refine wpS_cond (t := decide ((c : Int) = 0)) rfl (fun b2 => ?_) (fun b2 => ?_)
  · -- decide ((c : Int) = 0) true
    have p2 := of_decide_eq_true b2
    refine wpS_seq ?_
    refine wpS_region ?_
    refine s_y (v := .int .i64 b) (y_move rfl) rfl ?_
    refine s_y (v := .int .i64 d) (y_move rfl) rfl ?_
    refine s_y (v := .agg #[.int .i64 b, .int .i64 0, .int .i64 d]) (y_buildL (m := [(0, .int .i64 b), (2, .int .i64 d)]) (vs := #[.int .i64 b, .int .i64 0, .int .i64 d]) (evc rfl (evc rfl evn)) (fun w => by kernel_rfl)) rfl ?_
    refine s_e0 ?_
    refine e_store (vs := [.int .i64 b, .int .i64 0, .int .i64 d]) (l' := [.int .i64 b, .int .i64 0, .int .i64 d]) rfl rfl rfl rfl Try.sizeOf144 .h (Nat.le_of_ble_eq_true rfl) rfl ?_
    refine wpL_nil ?_
    refine thenS_n ?_
    refine wpS_ret ?_
    refine thenS_r ?_
    refine fin1' (M := [cel b_1 144 [.int .i64 b, .int .i64 0, .int .i64 d]]) (.inr rfl) (.p .h .nil) Try.results161 (rvC (vs := [.int .i64 b, .int .i64 0, .int .i64 d]) rfl Try.isAgg144 Try.sizeOf144 (fun w hs => ownN .h rfl w hs)) ?_
    intro w' hs; exact ⟨congrArg (fun q : Spot => Ending.returned (.agg (spotV q).toArray)) (show (Spot.mk b 0 d : Spot) = behind a b c d by unfold behind; rw [if_pos (by omega)]), SH.dropAll (L := []) [_] hs⟩
  · -- decide ((c : Int) = 0) false
    have p2 := of_decide_eq_false b2
    refine wpS_skip ?_
    refine thenS_n ?_
    refine wpS_seq ?_
    refine wpS_region ?_
    refine s_y (v := .int .i64 a) (y_move rfl) rfl ?_
    refine s_y (v := .int .i64 c) (y_move rfl) rfl ?_
    refine s_y (v := .int .i64 d) (y_move rfl) rfl ?_
    refine s_y (v := .agg #[.int .i64 a, .int .i64 c, .int .i64 d]) (y_buildL (m := [(0, .int .i64 a), (1, .int .i64 c), (2, .int .i64 d)]) (vs := #[.int .i64 a, .int .i64 c, .int .i64 d]) (evc rfl (evc rfl (evc rfl evn))) (fun w => by kernel_rfl)) rfl ?_
    refine s_e0 ?_
    refine e_store (vs := [.int .i64 a, .int .i64 c, .int .i64 d]) (l' := [.int .i64 a, .int .i64 c, .int .i64 d]) rfl rfl rfl rfl Try.sizeOf144 .h (Nat.le_of_ble_eq_true rfl) rfl ?_
    refine wpL_nil ?_
    refine thenS_n ?_
    refine wpS_ret ?_
    refine fin1' (M := [cel b_1 144 [.int .i64 a, .int .i64 c, .int .i64 d]]) (.inr rfl) (.p .h .nil) Try.results161 (rvC (vs := [.int .i64 a, .int .i64 c, .int .i64 d]) rfl Try.isAgg144 Try.sizeOf144 (fun w hs => ownN .h rfl w hs)) ?_
    intro w' hs; exact ⟨congrArg (fun q : Spot => Ending.returned (.agg (spotV q).toArray)) (show (Spot.mk a c d : Spot) = behind a b c d by unfold behind; rw [if_neg (by omega)]), SH.dropAll (L := []) [_] hs⟩

def lastTo (p : Par) (i : Nat) : List Spot := (List.range i).map fun j => behind 5 3 (ofP p).q3 ((j : Nat) : Int)
theorem lastTo_len (p : Par) (i : Nat) : (lastTo p i).length = i := by simp [lastTo]
theorem lastTo_next (p : Par) (i : Nat) : lastTo p i ++ [behind 5 3 (ofP p).q3 ((i : Nat) : Int)] = lastTo p (i + 1) := by simp [lastTo, List.range_succ]

theorem last_c (p : Par) (w : World) : MakesS Try.prog 66 #[.agg (parV p).toArray] w [] spotV 3 144 (lastS p) := by
  refine calls_S (n := 22) (σ0 := (upd fr0 0 (.agg #[.int .i64 (p.n0), .int .i64 (p.n1), .int .i64 (p.n2), .int .i64 (p.n3)]))) (D := []) (A := []) Try.func66 rfl Try.ntmps66 rfl (a1_fr _) (SH.start w) ?_
  have hs1 := sl_le p
  have hq2 := ofP_2 p
  have hq3 := ofP_3 p
  refine wpS_seq ?_
  refine wpS_region ?_
  refine s_e rfl ?_
  refine e_box (v := .agg #[.int .i64 (p.n0), .int .i64 (p.n1), .int .i64 (p.n2), .int .i64 (p.n3)]) (l := [.int .i64 (p.n0), .int .i64 (p.n1), .int .i64 (p.n2), .int .i64 (p.n3)]) rfl rfl ?_
  intro b_1
  refine s_y (v := .slice none 0 0) (y_assign rfl) rfl ?_
  refine wpL_nil ?_
  refine thenS_n ?_
  refine wpS_seq ?_
  refine wpS_region ?_
  refine s_y (v := .agg #[.int .i64 (p.n0), .int .i64 (p.n1), .int .i64 (p.n2), .int .i64 (p.n3)]) (y_loadN (vs := [.int .i64 (p.n0), .int .i64 (p.n1), .int .i64 (p.n2), .int .i64 (p.n3)]) rfl Try.isAgg53 Try.sizeOf53 (ownN .h rfl)) rfl ?_
  refine s_y (v := .agg #[.int .i64 ((ofP p).q0), .int .i64 ((ofP p).q1), .int .i64 ((ofP p).q2), .int .i64 ((ofP p).q3), .int .i64 ((ofP p).q4), .int .i64 ((ofP p).q5), .int .i64 ((ofP p).q6), .int .i64 ((ofP p).q7), .int .i64 ((ofP p).q8), .int .i64 ((ofP p).q9)]) (y_call (args := #[.agg #[.int .i64 (p.n0), .int .i64 (p.n1), .int .i64 (p.n2), .int .i64 (p.n3)]]) (v := .agg #[.int .i64 ((ofP p).q0), .int .i64 ((ofP p).q1), .int .i64 ((ofP p).q2), .int .i64 ((ofP p).q3), .int .i64 ((ofP p).q4), .int .i64 ((ofP p).q5), .int .i64 ((ofP p).q6), .int .i64 ((ofP p).q7), .int .i64 ((ofP p).q8), .int .i64 ((ofP p).q9)]) Try.call160 (ev1 rfl) (fun w hs => of_c p w)) rfl ?_
  refine s_e rfl ?_
  refine e_alloc (l := [.int .i64 0, .int .i64 0, .int .i64 0, .int .i64 0, .int .i64 0, .int .i64 0, .int .i64 0, .int .i64 0, .int .i64 0, .int .i64 0]) Try.zeroValue184 rfl ?_
  intro b_2
  refine s_e0 ?_
  refine e_store (vs := [.int .i64 ((ofP p).q0), .int .i64 ((ofP p).q1), .int .i64 ((ofP p).q2), .int .i64 ((ofP p).q3), .int .i64 ((ofP p).q4), .int .i64 ((ofP p).q5), .int .i64 ((ofP p).q6), .int .i64 ((ofP p).q7), .int .i64 ((ofP p).q8), .int .i64 ((ofP p).q9)]) (l' := [.int .i64 ((ofP p).q0), .int .i64 ((ofP p).q1), .int .i64 ((ofP p).q2), .int .i64 ((ofP p).q3), .int .i64 ((ofP p).q4), .int .i64 ((ofP p).q5), .int .i64 ((ofP p).q6), .int .i64 ((ofP p).q7), .int .i64 ((ofP p).q8), .int .i64 ((ofP p).q9)]) rfl rfl rfl rfl Try.sizeOf184 .h (Nat.le_of_ble_eq_true rfl) rfl ?_
  refine wpL_nil ?_
  refine thenS_n ?_
  refine wpS_seq ?_
  refine wpS_region ?_
  refine s_y (v := .slice none 0 0) (y_assign rfl) rfl ?_
  refine wpL_nil ?_
  refine thenS_n ?_
  refine wpS_seq ?_
  refine wpS_seq ?_
  refine wpS_region ?_
  refine s_y (v := .pointer (some ⟨b_2, 2, none⟩)) (y_fieldAddr (o' := 2) rfl Try.underlying184 rfl Try.sizeOf3 (by decide) rfl) rfl ?_
  refine s_y (v := .int .i64 ((ofP p).q2)) (y_load1 rfl Try.isAgg3 (own1 .h rfl)) rfl ?_
  refine s_y (v := .int .i64 0) (y_move rfl) rfl ?_
  refine wpL_nil ?_
  refine thenS_n ?_
  refine wpS_block ?_
  refine wpS_nil0 3 144 ?_
  refine wpS_loop (fun mez ds σ L => ∃ i : Nat, ∃ a1 : Option Addr, ∃ c1 : Nat, mez = sl p - i ∧ (i ≤ sl p) ∧ ds = [] ∧ σ 3 = .pointer (some ⟨b_2, 0, none⟩) ∧ σ 4 = .slice a1 ((lastTo p i).length) c1 ∧ σ 9 = .int .i64 ((ofP p).q2) ∧ σ 10 = .int .i64 (((i : Nat) : Int)) ∧ Ent L [osl a1 c1 ((lastTo p i).length) 3 144 ((lastTo p i).flatMap spotV), cel b_2 184 [.int .i64 ((ofP p).q0), .int .i64 ((ofP p).q1), .int .i64 ((ofP p).q2), .int .i64 ((ofP p).q3), .int .i64 ((ofP p).q4), .int .i64 ((ofP p).q5), .int .i64 ((ofP p).q6), .int .i64 ((ofP p).q7), .int .i64 ((ofP p).q8), .int .i64 ((ofP p).q9)], cel b_1 53 [.int .i64 (p.n0), .int .i64 (p.n1), .int .i64 (p.n2), .int .i64 (p.n3)]]) (m0 := sl p - 0) ⟨0, none, 0, rfl, by omega, rfl, rfl, rfl, rfl, rfl, .p .h (.p .h (.p .h .nil))⟩ ?_
  rintro mez ds σ L ⟨i, a1, c1, hm_3, hf0_3, rfl, h3_3, h4_3, h9_3, h10_3, hE_3⟩
  refine wpS_ent hE_3 ?_; clear hE_3
  refine wpS_seq ?_
  refine wpS_region ?_
  refine s_y (v := .bool (decide ((((i : Nat) : Int) : Int) < ((ofP p).q2)))) (y_lss (a := ((i : Nat) : Int)) (b := (ofP p).q2) h10_3 h9_3 rfl) rfl ?_
  refine wpL_nil ?_
  refine thenS_n ?_
  refine wpS_seq ?_
  refine wpS_cond (t := decide ((((i : Nat) : Int) : Int) < ((ofP p).q2))) rfl (fun b4 => ?_) (fun b4 => ?_)
  · -- decide ((((i : Nat) : Int) : Int) < ((ofP p).q2)) true
    have p4 := of_decide_eq_true b4
    refine wpS_skip ?_
    refine thenS_n ?_
    refine wpS_seq ?_
    refine wpS_block ?_
    refine wpS_seq ?_
    refine wpS_region ?_
    refine s_y (v := .int .i64 (((i : Nat) : Int))) (y_move h10_3) rfl ?_
    refine s_y (v := .int .i64 (((i : Nat) : Int))) (y_assign rfl) rfl ?_
    refine wpL_nil ?_
    refine thenS_n ?_
    refine wpS_region ?_
    refine s_y (v := .slice a1 ((lastTo p i).length) c1) (y_move h4_3) rfl ?_
    refine s_y (v := .pointer (some ⟨b_2, 3, none⟩)) (y_fieldAddr (o' := 3) h3_3 Try.underlying184 rfl Try.sizeOf3 (by decide) rfl) rfl ?_
    refine s_y (v := .int .i64 ((ofP p).q3)) (y_load1 rfl Try.isAgg3 (own1 (.t .h) rfl)) rfl ?_
    refine s_y (v := .int .i64 (((i : Nat) : Int))) (y_move rfl) rfl ?_
    refine s_y (v := .agg #[.int .i64 ((behind 5 3 ((ofP p).q3) ((i : Nat) : Int)).s0), .int .i64 ((behind 5 3 ((ofP p).q3) ((i : Nat) : Int)).s1), .int .i64 ((behind 5 3 ((ofP p).q3) ((i : Nat) : Int)).s2)]) (y_call (args := #[.int .i64 5, .int .i64 3, .int .i64 ((ofP p).q3), .int .i64 (((i : Nat) : Int))]) (v := .agg #[.int .i64 ((behind 5 3 ((ofP p).q3) ((i : Nat) : Int)).s0), .int .i64 ((behind 5 3 ((ofP p).q3) ((i : Nat) : Int)).s1), .int .i64 ((behind 5 3 ((ofP p).q3) ((i : Nat) : Int)).s2)]) Try.call161 (ev4 rfl rfl rfl rfl) (fun w hs => behind_c 5 3 ((ofP p).q3) ((i : Nat) : Int) w)) rfl ?_
    refine s_e rfl ?_
    refine e_bsliceL (e := 144) (m := [(0, .agg #[.int .i64 ((behind 5 3 ((ofP p).q3) ((i : Nat) : Int)).s0), .int .i64 ((behind 5 3 ((ofP p).q3) ((i : Nat) : Int)).s1), .int .i64 ((behind 5 3 ((ofP p).q3) ((i : Nat) : Int)).s2)])]) (l := [.int .i64 ((behind 5 3 ((ofP p).q3) ((i : Nat) : Int)).s0), .int .i64 ((behind 5 3 ((ofP p).q3) ((i : Nat) : Int)).s1), .int .i64 ((behind 5 3 ((ofP p).q3) ((i : Nat) : Int)).s2)]) (evc rfl evn) (fun w => by kernel_rfl) ?_
    intro b_5
    refine s_e rfl ?_
    refine e_appendL (enc := spotV) (xs := ((lastTo p i) : List Spot)) (ns := ([(behind 5 3 ((ofP p).q3) ((i : Nat) : Int))] : List Spot)) (zs := (lastTo p (i + 1))) (bytes := 24) spotV_len spotV_one Try.underlying58 (i := Try.t144) rfl rfl rfl rfl rfl (by decide) rfl rfl (by first | rfl | omega) (by first | rfl | omega) (.t .h) (fun w hs => celR .h w hs) (lastTo_next p i) (by rw [lastTo_len]; omega) (by rw [lastTo_len]; omega) ?_
    intro a_6 c_7
    refine s_y (v := .slice a_6 ((lastTo p (i + 1)).length) c_7) (y_assign rfl) rfl ?_
    refine wpL_nil ?_
    refine blockS_n ?_
    refine thenS_n ?_
    refine wpS_region ?_
    refine s_y (v := .int .i64 ((((i + 1) : Nat) : Int))) (y_add (a := ((i : Nat) : Int)) (b := 1) (c := (((i + 1) : Nat) : Int)) h10_3 rfl (wI (by omega) (by omega) (by omega))) rfl ?_
    refine s_y (v := .int .i64 ((((i + 1) : Nat) : Int))) (y_move rfl) rfl ?_
    refine wpL_nil ?_
    refine thenS_n ?_
    exact ⟨_, by omega, ⟨(i + 1), a_6, c_7, rfl, by omega, rfl, h3_3, rfl, h9_3, rfl, .p .h (.p (.t .h) (.p (.t .h) .nil))⟩⟩
  · -- decide ((((i : Nat) : Int) : Int) < ((ofP p).q2)) false
    have p4 := of_decide_eq_false b4
    refine wpS_exit ?_
    refine thenS_x ?_
    refine thenS_x ?_
    refine blockS_h ?_
    refine thenS_n ?_
    refine wpS_seq ?_
    refine wpS_region ?_
    refine s_y (v := .slice a1 ((lastTo p i).length) c1) (y_move h4_3) rfl ?_
    refine s_y (v := .slice a1 ((lastTo p i).length) c1) (y_assign rfl) rfl ?_
    refine wpL_nil ?_
    refine thenS_n ?_
    refine wpS_ret ?_
    refine fin1 (M := [osl a1 c1 ((lastTo p i).length) 3 144 ((lastTo p i).flatMap spotV)]) (v := .slice a1 ((lastTo p i).length) c1) (.inr rfl) (.p .h .nil) Try.results66 rfl ?_
    exact fun w' hs => ⟨(a1, c1), by rw [show (lastS p) = (lastTo p i) from (by rw [show i = sl p by omega]; rfl)], by rw [show (lastS p) = (lastTo p i) from (by rw [show i = sl p by omega]; rfl)]; exact hs, trivial⟩

theorem counts_law (p : Par) (w : World) : Pure Try.prog 11 #[.agg #[.int .i64 (p.n0), .int .i64 (p.n1), .int .i64 (p.n2), .int .i64 (p.n3)]] w (.bool true) := by
  refine calls_S (n := 46) (σ0 := (upd fr0 0 (.agg #[.int .i64 (p.n0), .int .i64 (p.n1), .int .i64 (p.n2), .int .i64 (p.n3)]))) (D := []) (A := []) Try.func11 rfl Try.ntmps11 rfl (a1_fr _) (SH.start w) ?_
  have hs1 := sl_le (few p)
  have hs2 := bk_bd (few p)
  have hs3 := nbk_bd (few p)
  have hs4 := rh_bd (few p)
  have hs5 := rnd_le ((sl (few p) : Nat) : Int)
  refine wpS_seq ?_
  refine wpS_region ?_
  refine s_e rfl ?_
  refine e_box (v := .agg #[.int .i64 (p.n0), .int .i64 (p.n1), .int .i64 (p.n2), .int .i64 (p.n3)]) (l := [.int .i64 (p.n0), .int .i64 (p.n1), .int .i64 (p.n2), .int .i64 (p.n3)]) rfl rfl ?_
  intro b_1
  refine s_y (v := .bool false) (y_assign rfl) rfl ?_
  refine wpL_nil ?_
  refine thenS_n ?_
  refine wpS_seq ?_
  refine wpS_region ?_
  refine s_y (v := .agg #[.int .i64 (p.n0), .int .i64 (p.n1), .int .i64 (p.n2), .int .i64 (p.n3)]) (y_loadN (vs := [.int .i64 (p.n0), .int .i64 (p.n1), .int .i64 (p.n2), .int .i64 (p.n3)]) rfl Try.isAgg53 Try.sizeOf53 (ownN .h rfl)) rfl ?_
  refine s_y (v := .agg #[.int .i64 ((few p).n0), .int .i64 ((few p).n1), .int .i64 ((few p).n2), .int .i64 ((few p).n3)]) (y_call (args := #[.agg #[.int .i64 (p.n0), .int .i64 (p.n1), .int .i64 (p.n2), .int .i64 (p.n3)]]) (v := .agg #[.int .i64 ((few p).n0), .int .i64 ((few p).n1), .int .i64 ((few p).n2), .int .i64 ((few p).n3)]) Try.call62 (ev1 rfl) (fun w hs => few_c p w)) rfl ?_
  refine s_e0 ?_
  refine e_store (vs := [.int .i64 ((few p).n0), .int .i64 ((few p).n1), .int .i64 ((few p).n2), .int .i64 ((few p).n3)]) (l' := [.int .i64 ((few p).n0), .int .i64 ((few p).n1), .int .i64 ((few p).n2), .int .i64 ((few p).n3)]) rfl rfl rfl rfl Try.sizeOf53 .h (Nat.le_of_ble_eq_true rfl) rfl ?_
  refine wpL_nil ?_
  refine thenS_n ?_
  refine wpS_seq ?_
  refine wpS_region ?_
  refine s_y (v := .agg #[.int .i64 ((few p).n0), .int .i64 ((few p).n1), .int .i64 ((few p).n2), .int .i64 ((few p).n3)]) (y_loadN (vs := [.int .i64 ((few p).n0), .int .i64 ((few p).n1), .int .i64 ((few p).n2), .int .i64 ((few p).n3)]) rfl Try.isAgg53 Try.sizeOf53 (ownN .h rfl)) rfl ?_
  refine s_y (v := .tuple #[.int .i64 (bk (few p)), .int .i64 ((((sl (few p)) : Nat) : Int))]) (y_call (args := #[.agg #[.int .i64 ((few p).n0), .int .i64 ((few p).n1), .int .i64 ((few p).n2), .int .i64 ((few p).n3)]]) (v := .tuple #[.int .i64 (bk (few p)), .int .i64 ((((sl (few p)) : Nat) : Int))]) Try.call63 (ev1 rfl) (fun w hs => rblocks_c (few p) w)) rfl ?_
  refine s_y (v := .tuple #[.int .i64 (bk (few p)), .int .i64 ((((sl (few p)) : Nat) : Int))]) (y_move rfl) rfl ?_
  refine s_y (v := .int .i64 (bk (few p))) (y_extract (v := .int .i64 (bk (few p))) rfl rfl) rfl ?_
  refine s_y (v := .int .i64 ((((sl (few p)) : Nat) : Int))) (y_extract (v := .int .i64 ((((sl (few p)) : Nat) : Int))) rfl rfl) rfl ?_
  refine s_y (v := .int .i64 (bk (few p))) (y_assign rfl) rfl ?_
  refine s_y (v := .int .i64 ((((sl (few p)) : Nat) : Int))) (y_assign rfl) rfl ?_
  refine wpL_nil ?_
  refine thenS_n ?_
  refine wpS_seq ?_
  refine wpS_lex (by kernel_rfl) (by kernel_rfl) ?_
  refine x_y (v := .int .i64 (bk (few p))) (y_move rfl) rfl ?_
  refine x_y (v := .int .i64 ((((sl (few p)) : Nat) : Int))) (y_move rfl) rfl ?_
  refine x_y (v := .int .i64 ((bk (few p)) + (((sl (few p)) : Nat) : Int))) (y_add (a := bk (few p)) (b := (((sl (few p)) : Nat) : Int)) (c := (bk (few p)) + (((sl (few p)) : Nat) : Int)) rfl rfl (wI rfl (by omega) (by omega))) rfl ?_
  refine x_y (v := .int .i64 (bk (few p))) (y_move rfl) rfl ?_
  refine x_y (v := .pointer (some ⟨b_1, 1, none⟩)) (y_fieldAddr (o' := 1) rfl Try.underlying53 rfl Try.sizeOf3 (by decide) rfl) rfl ?_
  refine x_y (v := .int .i64 ((few p).n1)) (y_load1 rfl Try.isAgg3 (own1 .h rfl)) rfl ?_
  refine x_y (v := .int .i64 ((few p).n1 * bk (few p))) (y_mul (a := bk (few p)) (b := (few p).n1) (c := (few p).n1 * bk (few p)) rfl rfl (by rw [Int.mul_comm]; exact wI rfl (by omega) (by omega))) rfl ?_
  refine x_y (v := .int .i64 (((bk (few p)) + (((sl (few p)) : Nat) : Int)) - ((few p).n1 * bk (few p)))) (y_sub (a := (bk (few p)) + (((sl (few p)) : Nat) : Int)) (b := (few p).n1 * bk (few p)) (c := ((bk (few p)) + (((sl (few p)) : Nat) : Int)) - ((few p).n1 * bk (few p))) rfl rfl (wI rfl (by omega) (by omega))) rfl ?_
  refine x_y (v := .int .i64 ((((sl (few p)) : Nat) : Int))) (y_move rfl) rfl ?_
  refine x_y (v := .int .i64 ((((rnd ((((sl (few p)) : Nat) : Int))) : Nat) : Int))) (y_call (args := #[.int .i64 ((((sl (few p)) : Nat) : Int))]) (v := .int .i64 ((((rnd ((((sl (few p)) : Nat) : Int))) : Nat) : Int))) Try.call56 (ev1 rfl) (fun w hs => rrnd_c ((((sl (few p)) : Nat) : Int)) (by omega) (by omega) w)) rfl ?_
  refine x_y (v := .int .i64 ((((2 * rnd ((sl (few p) : Nat) : Int)) : Nat) : Int))) (y_mul (a := 2) (b := (((rnd ((((sl (few p)) : Nat) : Int))) : Nat) : Int)) (c := (((2 * rnd ((sl (few p) : Nat) : Int)) : Nat) : Int)) rfl rfl (wI (by omega) (by omega) (by omega))) rfl ?_
  refine x_y (v := .int .i64 ((((sl (few p)) : Nat) : Int))) (y_move rfl) rfl ?_
  refine x_y (v := .int .i64 (((((sl (few p)) / 2) : Nat) : Int))) (y_quo (a := (((sl (few p)) : Nat) : Int)) (b := 2) (c := ((((sl (few p)) / 2) : Nat) : Int)) rfl rfl (by omega) (n_quo _ 2 (by omega) (by omega))) rfl ?_
  refine x_y (v := .int .i64 ((((2 * rh (few p)) : Nat) : Int))) (y_mul (a := (((2 * rnd ((sl (few p) : Nat) : Int)) : Nat) : Int)) (b := ((((sl (few p)) / 2) : Nat) : Int)) (c := (((2 * rh (few p)) : Nat) : Int)) rfl rfl (rh_wrap2 (few p))) rfl ?_
  refine x_y (v := .int .i64 ((((bk (few p)) + (((sl (few p)) : Nat) : Int)) - ((few p).n1 * bk (few p))) + (((2 * rh (few p)) : Nat) : Int))) (y_add (a := ((bk (few p)) + (((sl (few p)) : Nat) : Int)) - ((few p).n1 * bk (few p))) (b := (((2 * rh (few p)) : Nat) : Int)) (c := (((bk (few p)) + (((sl (few p)) : Nat) : Int)) - ((few p).n1 * bk (few p))) + (((2 * rh (few p)) : Nat) : Int)) rfl rfl (wI rfl (by omega) (by omega))) rfl ?_
  refine x_y (v := .int .i64 ((((sl (few p)) : Nat) : Int))) (y_move rfl) rfl ?_
  refine x_y (v := .int .i64 (((((bk (few p)) + (((sl (few p)) : Nat) : Int)) - ((few p).n1 * bk (few p))) + (((2 * rh (few p)) : Nat) : Int)) + (((sl (few p)) : Nat) : Int))) (y_add (a := (((bk (few p)) + (((sl (few p)) : Nat) : Int)) - ((few p).n1 * bk (few p))) + (((2 * rh (few p)) : Nat) : Int)) (b := (((sl (few p)) : Nat) : Int)) (c := ((((bk (few p)) + (((sl (few p)) : Nat) : Int)) - ((few p).n1 * bk (few p))) + (((2 * rh (few p)) : Nat) : Int)) + (((sl (few p)) : Nat) : Int)) rfl rfl (wI rfl (by omega) (by omega))) rfl ?_
  refine x_y (v := .int .i64 (((((bk (few p)) + (((sl (few p)) : Nat) : Int)) - ((few p).n1 * bk (few p))) + (((2 * rh (few p)) : Nat) : Int)) + (((sl (few p)) : Nat) : Int))) (y_assign rfl) rfl ?_
  refine x_nil ?_
  refine thenS_n ?_
  refine wpS_seq ?_
  refine wpS_seq ?_
  refine wpS_region ?_
  refine s_y (v := .int .i64 ((((sl (few p)) : Nat) : Int))) (y_move rfl) rfl ?_
  refine s_y (v := .bool (decide (((sl (few p)) : Nat) = 0))) (y_eql (a := (((sl (few p)) : Nat) : Int)) (b := 0) (c := decide (((sl (few p)) : Nat) = 0)) rfl rfl (decide_eq_decide.2 (by omega))) rfl ?_
  refine wpL_nil ?_
  refine thenS_n ?_
  refine wpS_cond (t := decide (((sl (few p)) : Nat) = 0)) rfl (fun b2 => ?_) (fun b2 => ?_)
  · -- decide (((sl (few p)) : Nat) = 0) true
    have p2 := of_decide_eq_true b2
    refine wpS_region ?_
    refine s_y (v := .int .i64 0) (y_assign rfl) rfl ?_
    refine wpL_nil ?_
    refine thenS_n ?_
    refine wpS_seq ?_
    refine wpS_region ?_
    refine s_y (v := .bool true) (y_call (args := #[]) (v := .bool true) Try.call64 ev0 (fun w hs => awake17_c w)) rfl ?_
    refine s_y (v := .bool true) (y_move rfl) rfl ?_
    refine s_gy (y_loadN (vs := [.int .i64 ((few p).n0), .int .i64 ((few p).n1), .int .i64 ((few p).n2), .int .i64 ((few p).n3)]) rfl Try.isAgg53 Try.sizeOf53 (ownN .h rfl)) rfl rfl rfl rfl rfl rfl ?_
    refine s_gy (y_call (args := #[.agg #[.int .i64 ((few p).n0), .int .i64 ((few p).n1), .int .i64 ((few p).n2), .int .i64 ((few p).n3)]]) (v := .int .i64 ((ofP (few p)).q9)) Try.call65 (ev1 rfl) (fun w hs => count_c (few p) w)) rfl rfl rfl rfl rfl rfl ?_
    refine s_gy (y_move rfl) rfl rfl rfl rfl rfl rfl ?_
    refine s_gy (y_eql (a := (ofP (few p)).q9) (b := 0) rfl rfl rfl) rfl rfl rfl rfl rfl rfl ?_
    refine s_y (v := .bool (decide (((ofP (few p)).q9 : Int) = 0))) (y_pickT (v := .bool (decide (((ofP (few p)).q9 : Int) = 0))) rfl rfl rfl) rfl ?_
    refine s_y (v := .bool (decide (((ofP (few p)).q9 : Int) = 0))) (y_move rfl) rfl ?_
    refine s_gy (y_loadN (vs := [.int .i64 ((few p).n0), .int .i64 ((few p).n1), .int .i64 ((few p).n2), .int .i64 ((few p).n3)]) rfl Try.isAgg53 Try.sizeOf53 (ownN .h rfl)) rfl rfl rfl rfl (b' := decide (((ofP (few p)).q9 : Int) = 0)) rfl (decide_eq_true (by first | exact cnt_no (by assumption) | exact cnt_yes (by assumption))) ?_
    refine s_ge rfl rfl rfl rfl (b' := decide (((ofP (few p)).q9 : Int) = 0)) rfl (decide_eq_true (by first | exact cnt_no (by assumption) | exact cnt_yes (by assumption))) ?_
    refine e_call (f := 66) (args := #[.agg #[.int .i64 ((few p).n0), .int .i64 ((few p).n1), .int .i64 ((few p).n2), .int .i64 ((few p).n3)]]) (X := Option Addr × Nat) (A := []) (M := [cel b_1 53 [.int .i64 ((few p).n0), .int .i64 ((few p).n1), .int .i64 ((few p).n2), .int .i64 ((few p).n3)]]) (V := slV (lastS (few p))) (A' := fun x => [slR spotV 3 144 (lastS (few p)) x]) (C := fun _ => True) Try.call66 (ev1 rfl) (.p .h .nil) (fun w hs => last_c (few p) w) ?_
    rintro ⟨a_3, c_4⟩ -
    refine s_gy (y_len (ty' := 0) (at_ := #[]) rfl Try.underlying58) rfl rfl rfl rfl (b' := decide (((ofP (few p)).q9 : Int) = 0)) rfl (decide_eq_true (by first | exact cnt_no (by assumption) | exact cnt_yes (by assumption))) ?_
    refine s_gy (y_move rfl) rfl rfl rfl rfl (b' := decide (((ofP (few p)).q9 : Int) = 0)) rfl (decide_eq_true (by first | exact cnt_no (by assumption) | exact cnt_yes (by assumption))) ?_
    refine s_gy (y_eql (a := (((lastS (few p)).length : Nat) : Int)) (b := (((sl (few p)) : Nat) : Int)) (c := decide (((lastS (few p)).length) = (sl (few p)))) rfl rfl (decide_eq_decide.2 (by omega))) rfl rfl rfl rfl (b' := decide (((ofP (few p)).q9 : Int) = 0)) rfl (decide_eq_true (by first | exact cnt_no (by assumption) | exact cnt_yes (by assumption))) ?_
    refine s_y (v := .bool (decide (((lastS (few p)).length) = (sl (few p))))) (y_pickT (b := decide (((ofP (few p)).q9 : Int) = 0)) (v := .bool (decide (((lastS (few p)).length) = (sl (few p))))) rfl (decide_eq_true (by first | exact cnt_no (by assumption) | exact cnt_yes (by assumption))) rfl) rfl ?_
    refine s_y (v := .bool (decide (((lastS (few p)).length) = (sl (few p))))) (y_assign rfl) rfl ?_
    refine wpL_nil ?_
    refine thenS_n ?_
    refine wpS_ret ?_
    refine fin1 (M := []) (v := .bool (decide (((lastS (few p)).length) = (sl (few p))))) (.inr rfl) (.nil) Try.results11 rfl ?_
    exact fun w' hs => ⟨(by rw [decide_eq_true (lastS_len _)]), hs⟩
  · -- decide (((sl (few p)) : Nat) = 0) false
    have p2 := of_decide_eq_false b2
    refine wpS_skip ?_
    refine thenS_n ?_
    refine wpS_seq ?_
    refine wpS_region ?_
    refine s_y (v := .bool true) (y_call (args := #[]) (v := .bool true) Try.call64 ev0 (fun w hs => awake17_c w)) rfl ?_
    refine s_y (v := .bool true) (y_move rfl) rfl ?_
    refine s_gy (y_loadN (vs := [.int .i64 ((few p).n0), .int .i64 ((few p).n1), .int .i64 ((few p).n2), .int .i64 ((few p).n3)]) rfl Try.isAgg53 Try.sizeOf53 (ownN .h rfl)) rfl rfl rfl rfl rfl rfl ?_
    refine s_gy (y_call (args := #[.agg #[.int .i64 ((few p).n0), .int .i64 ((few p).n1), .int .i64 ((few p).n2), .int .i64 ((few p).n3)]]) (v := .int .i64 ((ofP (few p)).q9)) Try.call65 (ev1 rfl) (fun w hs => count_c (few p) w)) rfl rfl rfl rfl rfl rfl ?_
    refine s_gy (y_move rfl) rfl rfl rfl rfl rfl rfl ?_
    refine s_gy (y_eql (a := (ofP (few p)).q9) (b := ((((bk (few p)) + (((sl (few p)) : Nat) : Int)) - ((few p).n1 * bk (few p))) + (((2 * rh (few p)) : Nat) : Int)) + (((sl (few p)) : Nat) : Int)) rfl rfl rfl) rfl rfl rfl rfl rfl rfl ?_
    refine s_y (v := .bool (decide (((ofP (few p)).q9 : Int) = (((((bk (few p)) + (((sl (few p)) : Nat) : Int)) - ((few p).n1 * bk (few p))) + (((2 * rh (few p)) : Nat) : Int)) + (((sl (few p)) : Nat) : Int))))) (y_pickT (v := .bool (decide (((ofP (few p)).q9 : Int) = (((((bk (few p)) + (((sl (few p)) : Nat) : Int)) - ((few p).n1 * bk (few p))) + (((2 * rh (few p)) : Nat) : Int)) + (((sl (few p)) : Nat) : Int))))) rfl rfl rfl) rfl ?_
    refine s_y (v := .bool (decide (((ofP (few p)).q9 : Int) = (((((bk (few p)) + (((sl (few p)) : Nat) : Int)) - ((few p).n1 * bk (few p))) + (((2 * rh (few p)) : Nat) : Int)) + (((sl (few p)) : Nat) : Int))))) (y_move rfl) rfl ?_
    refine s_gy (y_loadN (vs := [.int .i64 ((few p).n0), .int .i64 ((few p).n1), .int .i64 ((few p).n2), .int .i64 ((few p).n3)]) rfl Try.isAgg53 Try.sizeOf53 (ownN .h rfl)) rfl rfl rfl rfl (b' := decide (((ofP (few p)).q9 : Int) = (((((bk (few p)) + (((sl (few p)) : Nat) : Int)) - ((few p).n1 * bk (few p))) + (((2 * rh (few p)) : Nat) : Int)) + (((sl (few p)) : Nat) : Int)))) rfl (decide_eq_true (by first | exact cnt_no (by assumption) | exact cnt_yes (by assumption))) ?_
    refine s_ge rfl rfl rfl rfl (b' := decide (((ofP (few p)).q9 : Int) = (((((bk (few p)) + (((sl (few p)) : Nat) : Int)) - ((few p).n1 * bk (few p))) + (((2 * rh (few p)) : Nat) : Int)) + (((sl (few p)) : Nat) : Int)))) rfl (decide_eq_true (by first | exact cnt_no (by assumption) | exact cnt_yes (by assumption))) ?_
    refine e_call (f := 66) (args := #[.agg #[.int .i64 ((few p).n0), .int .i64 ((few p).n1), .int .i64 ((few p).n2), .int .i64 ((few p).n3)]]) (X := Option Addr × Nat) (A := []) (M := [cel b_1 53 [.int .i64 ((few p).n0), .int .i64 ((few p).n1), .int .i64 ((few p).n2), .int .i64 ((few p).n3)]]) (V := slV (lastS (few p))) (A' := fun x => [slR spotV 3 144 (lastS (few p)) x]) (C := fun _ => True) Try.call66 (ev1 rfl) (.p .h .nil) (fun w hs => last_c (few p) w) ?_
    rintro ⟨a_5, c_6⟩ -
    refine s_gy (y_len (ty' := 0) (at_ := #[]) rfl Try.underlying58) rfl rfl rfl rfl (b' := decide (((ofP (few p)).q9 : Int) = (((((bk (few p)) + (((sl (few p)) : Nat) : Int)) - ((few p).n1 * bk (few p))) + (((2 * rh (few p)) : Nat) : Int)) + (((sl (few p)) : Nat) : Int)))) rfl (decide_eq_true (by first | exact cnt_no (by assumption) | exact cnt_yes (by assumption))) ?_
    refine s_gy (y_move rfl) rfl rfl rfl rfl (b' := decide (((ofP (few p)).q9 : Int) = (((((bk (few p)) + (((sl (few p)) : Nat) : Int)) - ((few p).n1 * bk (few p))) + (((2 * rh (few p)) : Nat) : Int)) + (((sl (few p)) : Nat) : Int)))) rfl (decide_eq_true (by first | exact cnt_no (by assumption) | exact cnt_yes (by assumption))) ?_
    refine s_gy (y_eql (a := (((lastS (few p)).length : Nat) : Int)) (b := (((sl (few p)) : Nat) : Int)) (c := decide (((lastS (few p)).length) = (sl (few p)))) rfl rfl (decide_eq_decide.2 (by omega))) rfl rfl rfl rfl (b' := decide (((ofP (few p)).q9 : Int) = (((((bk (few p)) + (((sl (few p)) : Nat) : Int)) - ((few p).n1 * bk (few p))) + (((2 * rh (few p)) : Nat) : Int)) + (((sl (few p)) : Nat) : Int)))) rfl (decide_eq_true (by first | exact cnt_no (by assumption) | exact cnt_yes (by assumption))) ?_
    refine s_y (v := .bool (decide (((lastS (few p)).length) = (sl (few p))))) (y_pickT (b := decide (((ofP (few p)).q9 : Int) = (((((bk (few p)) + (((sl (few p)) : Nat) : Int)) - ((few p).n1 * bk (few p))) + (((2 * rh (few p)) : Nat) : Int)) + (((sl (few p)) : Nat) : Int)))) (v := .bool (decide (((lastS (few p)).length) = (sl (few p))))) rfl (decide_eq_true (by first | exact cnt_no (by assumption) | exact cnt_yes (by assumption))) rfl) rfl ?_
    refine s_y (v := .bool (decide (((lastS (few p)).length) = (sl (few p))))) (y_assign rfl) rfl ?_
    refine wpL_nil ?_
    refine thenS_n ?_
    refine wpS_ret ?_
    refine fin1 (M := []) (v := .bool (decide (((lastS (few p)).length) = (sl (few p))))) (.inr rfl) (.nil) Try.results11 rfl ?_
    exact fun w' hs => ⟨(by rw [decide_eq_true (lastS_len _)]), hs⟩

end Go.Proofs.Ytldkjjnjdjfipaa
