/- ChainSteps, walked. -/
import Derived.Test.YtldkjjnjdjfipaaWChn4
import Derived.Test.YtldkjjnjdjfipaaWHlpR
import Derived.Test.YtldkjjnjdjfipaaWMrg8
namespace Go.Proofs.Ytldkjjnjdjfipaa
open Go Go.RowKit
set_option linter.unusedVariables false
set_option linter.unusedSimpArgs false
set_option maxRecDepth 10000
set_option maxHeartbeats 1000000

theorem steps_law (k : Int) (a1 a2 a3 : Option Addr) (n1 c1 n2 c2 n3 c3 : Nat) (l1 l2 l3 : List Opc) (cr : Rec) (a : Option Addr) (na ca : Nat) (l : List Rec) (w : World) (hn1 : l1.length = n1) (hr1 : Rds w a1 (l1.flatMap opcV)) (hb1 : n1 ≤ 9223372036854775807) (hn2 : l2.length = n2) (hr2 : Rds w a2 (l2.flatMap opcV)) (hb2 : n2 ≤ 9223372036854775807) (hn3 : l3.length = n3) (hr3 : Rds w a3 (l3.flatMap opcV)) (hb3 : n3 ≤ 9223372036854775807) (hna : l.length = na) (hra : Rds w a (l.flatMap recV)) : Pure Try.prog 24 #[.agg #[.int .i64 k, .slice a1 n1 c1, .slice a2 n2 c2, .slice a3 n3 c3], .agg #[.bool (cr.dead), .int .i64 (cr.key.toInt), .int .i64 (cr.value.toInt), .int .i64 (cr.seq.toInt)], .slice a na ca] w (.bool true) := by
  refine calls_S (n := 68) (σ0 := (upd (upd (upd fr0 0 (.agg #[.int .i64 k, .slice a1 n1 c1, .slice a2 n2 c2, .slice a3 n3 c3])) 1 (.agg #[.bool (cr.dead), .int .i64 (cr.key.toInt), .int .i64 (cr.value.toInt), .int .i64 (cr.seq.toInt)])) 2 (.slice a na ca))) (D := []) (A := []) Try.func24 rfl Try.ntmps24 rfl (a3_fr _ _ _) (SH.start w) ?_
  refine wpS_seq ?_
  refine wpS_region ?_
  refine s_e rfl ?_
  refine e_box (v := .agg #[.int .i64 k, .slice a1 n1 c1, .slice a2 n2 c2, .slice a3 n3 c3]) (l := [.int .i64 k, .slice a1 n1 c1, .slice a2 n2 c2, .slice a3 n3 c3]) rfl rfl ?_
  intro b_1
  refine s_e rfl ?_
  refine e_box (v := .agg #[.bool (cr.dead), .int .i64 (cr.key.toInt), .int .i64 (cr.value.toInt), .int .i64 (cr.seq.toInt)]) (l := [.bool (cr.dead), .int .i64 (cr.key.toInt), .int .i64 (cr.value.toInt), .int .i64 (cr.seq.toInt)]) rfl rfl ?_
  intro b_2
  refine s_y (v := .bool false) (y_assign rfl) rfl ?_
  refine wpL_nil ?_
  refine thenS_n ?_
  refine wpS_seq ?_
  refine wpS_seq ?_
  refine wpS_region ?_
  refine s_y (v := .slice a na ca) (y_move rfl) rfl ?_
  refine s_y (v := .int .i64 (((na : Nat) : Int))) (y_len (ty' := 0) (at_ := #[]) rfl Try.underlying69) rfl ?_
  refine s_y (v := .bool (decide ((100 : Nat) < na))) (y_gtr (a := ((na : Nat) : Int)) (b := 100) (c := decide ((100 : Nat) < na)) rfl rfl (decide_eq_decide.2 (by omega))) rfl ?_
  refine s_y (v := .bool (decide ((100 : Nat) < na))) (y_move rfl) rfl ?_
  rcases Bool.eq_false_or_eq_true (decide ((100 : Nat) < na)) with b3 | b3
  · -- decide ((100 : Nat) < na) True
    have p3 := of_decide_eq_true b3
    refine s_no rfl rfl rfl rfl (b' := decide ((100 : Nat) < na)) rfl b3 ?_
    refine s_no rfl rfl rfl rfl (b' := decide ((100 : Nat) < na)) rfl b3 ?_
    refine s_no rfl rfl rfl rfl (b' := decide ((100 : Nat) < na)) rfl b3 ?_
    refine s_no rfl rfl rfl rfl (b' := decide ((100 : Nat) < na)) rfl b3 ?_
    refine s_y (v := .bool true) (y_pickT (b := decide ((100 : Nat) < na)) (v := .bool true) rfl b3 rfl) rfl ?_
    refine s_y (v := .bool true) (y_move rfl) rfl ?_
    refine s_no rfl rfl rfl rfl rfl rfl ?_
    refine s_no rfl rfl rfl rfl rfl rfl ?_
    refine s_no rfl rfl rfl rfl rfl rfl ?_
    refine s_no rfl rfl rfl rfl rfl rfl ?_
    refine s_y (v := .bool true) (y_pickT (v := .bool true) rfl rfl rfl) rfl ?_
    refine s_y (v := .bool true) (y_move rfl) rfl ?_
    refine s_no rfl rfl rfl rfl rfl rfl ?_
    refine s_no rfl rfl rfl rfl rfl rfl ?_
    refine s_no rfl rfl rfl rfl rfl rfl ?_
    refine s_no rfl rfl rfl rfl rfl rfl ?_
    refine s_y (v := .bool true) (y_pickT (v := .bool true) rfl rfl rfl) rfl ?_
    refine wpL_nil ?_
    refine thenS_n ?_
    refine wpS_cond_t rfl ?_
    refine wpS_seq ?_
    refine wpS_region ?_
    refine s_y (v := .bool true) (y_call (args := #[]) (v := .bool true) Try.call90 ev0 (fun w hs => awake15_c w)) rfl ?_
    refine s_y (v := .bool true) (y_assign rfl) rfl ?_
    refine wpL_nil ?_
    refine thenS_n ?_
    refine wpS_ret ?_
    refine thenS_r ?_
    refine fin1 (v := .bool true) (.inr rfl) (.nil) Try.results24 rfl ?_
    exact fun w' hs => ⟨rfl, hs⟩
  · -- decide ((100 : Nat) < na) False
    have p3 := of_decide_eq_false b3
    refine s_gy (y_fieldAddr (o' := 1) rfl Try.underlying84 rfl Try.sizeOf82 (by decide) rfl) rfl rfl rfl rfl (b' := decide ((100 : Nat) < na)) rfl b3 ?_
    refine s_gy (y_load1 rfl Try.isAgg82 (own1 (.t .h) rfl)) rfl rfl rfl rfl (b' := decide ((100 : Nat) < na)) rfl b3 ?_
    refine s_gy (y_len (ty' := 0) (at_ := #[]) rfl Try.underlying82) rfl rfl rfl rfl (b' := decide ((100 : Nat) < na)) rfl b3 ?_
    refine s_gy (y_gtr (a := ((n1 : Nat) : Int)) (b := 100) (c := decide ((100 : Nat) < n1)) rfl rfl (decide_eq_decide.2 (by omega))) rfl rfl rfl rfl (b' := decide ((100 : Nat) < na)) rfl b3 ?_
    refine s_y (v := .bool (decide ((100 : Nat) < n1))) (y_pickF (b := decide ((100 : Nat) < na)) (v := .bool (decide ((100 : Nat) < n1))) rfl b3 rfl) rfl ?_
    refine s_y (v := .bool (decide ((100 : Nat) < n1))) (y_move rfl) rfl ?_
    rcases Bool.eq_false_or_eq_true (decide ((100 : Nat) < n1)) with b4 | b4
    · -- decide ((100 : Nat) < n1) True
      have p4 := of_decide_eq_true b4
      refine s_no rfl rfl rfl rfl (b' := decide ((100 : Nat) < n1)) rfl b4 ?_
      refine s_no rfl rfl rfl rfl (b' := decide ((100 : Nat) < n1)) rfl b4 ?_
      refine s_no rfl rfl rfl rfl (b' := decide ((100 : Nat) < n1)) rfl b4 ?_
      refine s_no rfl rfl rfl rfl (b' := decide ((100 : Nat) < n1)) rfl b4 ?_
      refine s_y (v := .bool true) (y_pickT (b := decide ((100 : Nat) < n1)) (v := .bool true) rfl b4 rfl) rfl ?_
      refine s_y (v := .bool true) (y_move rfl) rfl ?_
      refine s_no rfl rfl rfl rfl rfl rfl ?_
      refine s_no rfl rfl rfl rfl rfl rfl ?_
      refine s_no rfl rfl rfl rfl rfl rfl ?_
      refine s_no rfl rfl rfl rfl rfl rfl ?_
      refine s_y (v := .bool true) (y_pickT (v := .bool true) rfl rfl rfl) rfl ?_
      refine wpL_nil ?_
      refine thenS_n ?_
      refine wpS_cond_t rfl ?_
      refine wpS_seq ?_
      refine wpS_region ?_
      refine s_y (v := .bool true) (y_call (args := #[]) (v := .bool true) Try.call90 ev0 (fun w hs => awake15_c w)) rfl ?_
      refine s_y (v := .bool true) (y_assign rfl) rfl ?_
      refine wpL_nil ?_
      refine thenS_n ?_
      refine wpS_ret ?_
      refine thenS_r ?_
      refine fin1 (v := .bool true) (.inr rfl) (.nil) Try.results24 rfl ?_
      exact fun w' hs => ⟨rfl, hs⟩
    · -- decide ((100 : Nat) < n1) False
      have p4 := of_decide_eq_false b4
      refine s_gy (y_fieldAddr (o' := 2) rfl Try.underlying84 rfl Try.sizeOf82 (by decide) rfl) rfl rfl rfl rfl (b' := decide ((100 : Nat) < n1)) rfl b4 ?_
      refine s_gy (y_load1 rfl Try.isAgg82 (own1 (.t .h) rfl)) rfl rfl rfl rfl (b' := decide ((100 : Nat) < n1)) rfl b4 ?_
      refine s_gy (y_len (ty' := 0) (at_ := #[]) rfl Try.underlying82) rfl rfl rfl rfl (b' := decide ((100 : Nat) < n1)) rfl b4 ?_
      refine s_gy (y_gtr (a := ((n2 : Nat) : Int)) (b := 100) (c := decide ((100 : Nat) < n2)) rfl rfl (decide_eq_decide.2 (by omega))) rfl rfl rfl rfl (b' := decide ((100 : Nat) < n1)) rfl b4 ?_
      refine s_y (v := .bool (decide ((100 : Nat) < n2))) (y_pickF (b := decide ((100 : Nat) < n1)) (v := .bool (decide ((100 : Nat) < n2))) rfl b4 rfl) rfl ?_
      refine s_y (v := .bool (decide ((100 : Nat) < n2))) (y_move rfl) rfl ?_
      rcases Bool.eq_false_or_eq_true (decide ((100 : Nat) < n2)) with b5 | b5
      · -- decide ((100 : Nat) < n2) True
        have p5 := of_decide_eq_true b5
        refine s_no rfl rfl rfl rfl (b' := decide ((100 : Nat) < n2)) rfl b5 ?_
        refine s_no rfl rfl rfl rfl (b' := decide ((100 : Nat) < n2)) rfl b5 ?_
        refine s_no rfl rfl rfl rfl (b' := decide ((100 : Nat) < n2)) rfl b5 ?_
        refine s_no rfl rfl rfl rfl (b' := decide ((100 : Nat) < n2)) rfl b5 ?_
        refine s_y (v := .bool true) (y_pickT (b := decide ((100 : Nat) < n2)) (v := .bool true) rfl b5 rfl) rfl ?_
        refine wpL_nil ?_
        refine thenS_n ?_
        refine wpS_cond_t rfl ?_
        refine wpS_seq ?_
        refine wpS_region ?_
        refine s_y (v := .bool true) (y_call (args := #[]) (v := .bool true) Try.call90 ev0 (fun w hs => awake15_c w)) rfl ?_
        refine s_y (v := .bool true) (y_assign rfl) rfl ?_
        refine wpL_nil ?_
        refine thenS_n ?_
        refine wpS_ret ?_
        refine thenS_r ?_
        refine fin1 (v := .bool true) (.inr rfl) (.nil) Try.results24 rfl ?_
        exact fun w' hs => ⟨rfl, hs⟩
      · -- decide ((100 : Nat) < n2) False
        have p5 := of_decide_eq_false b5
        refine s_gy (y_fieldAddr (o' := 3) rfl Try.underlying84 rfl Try.sizeOf82 (by decide) rfl) rfl rfl rfl rfl (b' := decide ((100 : Nat) < n2)) rfl b5 ?_
        refine s_gy (y_load1 rfl Try.isAgg82 (own1 (.t .h) rfl)) rfl rfl rfl rfl (b' := decide ((100 : Nat) < n2)) rfl b5 ?_
        refine s_gy (y_len (ty' := 0) (at_ := #[]) rfl Try.underlying82) rfl rfl rfl rfl (b' := decide ((100 : Nat) < n2)) rfl b5 ?_
        refine s_gy (y_gtr (a := ((n3 : Nat) : Int)) (b := 100) (c := decide ((100 : Nat) < n3)) rfl rfl (decide_eq_decide.2 (by omega))) rfl rfl rfl rfl (b' := decide ((100 : Nat) < n2)) rfl b5 ?_
        refine s_y (v := .bool (decide ((100 : Nat) < n3))) (y_pickF (b := decide ((100 : Nat) < n2)) (v := .bool (decide ((100 : Nat) < n3))) rfl b5 rfl) rfl ?_
        refine wpL_nil ?_
        refine thenS_n ?_
        refine wpS_cond (t := decide ((100 : Nat) < n3)) rfl (fun b6 => ?_) (fun b6 => ?_)
        · -- decide ((100 : Nat) < n3) true
          have p6 := of_decide_eq_true b6
          refine wpS_seq ?_
          refine wpS_region ?_
          refine s_y (v := .bool true) (y_call (args := #[]) (v := .bool true) Try.call90 ev0 (fun w hs => awake15_c w)) rfl ?_
          refine s_y (v := .bool true) (y_assign rfl) rfl ?_
          refine wpL_nil ?_
          refine thenS_n ?_
          refine wpS_ret ?_
          refine thenS_r ?_
          refine fin1 (v := .bool true) (.inr rfl) (.nil) Try.results24 rfl ?_
          exact fun w' hs => ⟨rfl, hs⟩
        · -- decide ((100 : Nat) < n3) false
          have p6 := of_decide_eq_false b6
          refine wpS_skip ?_
          refine thenS_n ?_
          refine wpS_seq ?_
          refine wpS_region ?_
          refine s_y (v := .slice a na ca) (y_move rfl) rfl ?_
          refine s_y (v := .agg #[.bool false, .int .i64 71, .int .i64 0, .int .i64 0]) (y_buildL (m := [(1, .int .i64 71)]) (vs := #[.bool false, .int .i64 71, .int .i64 0, .int .i64 0]) (evc rfl evn) (fun w => by kernel_rfl)) rfl ?_
          refine s_e rfl ?_
          refine e_call (f := 75) (args := #[.slice a na ca, .agg #[.bool false, .int .i64 71, .int .i64 0, .int .i64 0]]) (X := Nat) (A := []) (M := [cel b_2 23 [.bool (cr.dead), .int .i64 (cr.key.toInt), .int .i64 (cr.value.toInt), .int .i64 (cr.seq.toInt)], cel b_1 84 [.int .i64 k, .slice a1 n1 c1, .slice a2 n2 c2, .slice a3 n3 c3]]) (V := fun b => .slice (some ⟨b, 0, none⟩) na (na + 3)) (A' := fun b => [osl (some ⟨b, 0, none⟩) (na + 3) (na + 3) 4 23 ((ownL l (Rec.mk false 71 0 0)).flatMap recV)]) (C := fun _ => True) Try.call75 (ev2 rfl rfl) (.p .h (.p .h .nil)) (fun w hs => ownR_c a na ca l (Rec.mk false 71 0 0) w hna ((oldR hra) w hs) (by omega)) ?_
          rintro b_7 -
          refine s_y (v := .slice (some ⟨b_7, 0, none⟩) na (na + 3)) (y_assign rfl) rfl ?_
          refine wpL_nil ?_
          refine thenS_n ?_
          refine wpS_seq ?_
          refine wpS_region ?_
          refine s_y (v := .agg #[.int .i64 k, .slice a1 n1 c1, .slice a2 n2 c2, .slice a3 n3 c3]) (y_loadN (vs := [.int .i64 k, .slice a1 n1 c1, .slice a2 n2 c2, .slice a3 n3 c3]) rfl Try.isAgg84 Try.sizeOf84 (ownN (.t (.t .h)) rfl)) rfl ?_
          refine s_y (v := .agg #[.bool (cr.dead), .int .i64 (cr.key.toInt), .int .i64 (cr.value.toInt), .int .i64 (cr.seq.toInt)]) (y_loadN (vs := [.bool (cr.dead), .int .i64 (cr.key.toInt), .int .i64 (cr.value.toInt), .int .i64 (cr.seq.toInt)]) rfl Try.isAgg23 Try.sizeOf23 (ownN (.t .h) rfl)) rfl ?_
          refine s_y (v := .slice (some ⟨b_7, 0, none⟩) na (na + 3)) (y_move rfl) rfl ?_
          refine s_e rfl ?_
          refine e_call (f := 91) (args := #[.agg #[.int .i64 k, .slice a1 n1 c1, .slice a2 n2 c2, .slice a3 n3 c3], .agg #[.bool (cr.dead), .int .i64 (cr.key.toInt), .int .i64 (cr.value.toInt), .int .i64 (cr.seq.toInt)], .slice (some ⟨b_7, 0, none⟩) na (na + 3)]) (X := Option Addr × Nat) (A := []) (M := [osl (some ⟨b_7, 0, none⟩) (na + 3) (na + 3) 4 23 ((ownL l (Rec.mk false 71 0 0)).flatMap recV), cel b_2 23 [.bool (cr.dead), .int .i64 (cr.key.toInt), .int .i64 (cr.value.toInt), .int .i64 (cr.seq.toInt)], cel b_1 84 [.int .i64 k, .slice a1 n1 c1, .slice a2 n2 c2, .slice a3 n3 c3]]) (V := fun x => .tuple #[slV (stepO (chkB k l1 l2 l3) l2 l3 cr l) x, .agg #[.bool ((stepC (chkB k l1 l2 l3) l2 l3 cr l).dead), .int .i64 (((stepC (chkB k l1 l2 l3) l2 l3 cr l).key).toInt), .int .i64 (((stepC (chkB k l1 l2 l3) l2 l3 cr l).value).toInt), .int .i64 (((stepC (chkB k l1 l2 l3) l2 l3 cr l).seq).toInt)]]) (A' := fun x => [slR recV 4 23 (stepO (chkB k l1 l2 l3) l2 l3 cr l) x]) (C := fun _ => True) Try.call91 (ev3 rfl rfl rfl) (.p .h (.p .h (.p .h .nil))) (fun w hs => cstep_c k a1 a2 a3 n1 c1 n2 c2 n3 c3 l1 l2 l3 cr (some ⟨b_7, 0, none⟩) na (na + 3) l w hn1 ((oldR hr1) w hs) (by omega) hn2 ((oldR hr2) w hs) (by omega) hn3 ((oldR hr3) w hs) (by omega) (by omega) ((rdsT' recV_len (ownL_take' (by omega)) (oslR .h)) w hs) (by omega)) ?_
          rintro ⟨a_9, c_10⟩ -
          have hso12 : (stepO (chkB k l1 l2 l3) l2 l3 cr l).length ≤ l.length := stepO_le
          try simp only [List.length_cons, List.length_nil, Nat.zero_add] at hso12
          refine s_y (v := .tuple #[.slice a_9 ((stepO (chkB k l1 l2 l3) l2 l3 cr l).length) c_10, .agg #[.bool ((stepC (chkB k l1 l2 l3) l2 l3 cr l).dead), .int .i64 (((stepC (chkB k l1 l2 l3) l2 l3 cr l).key).toInt), .int .i64 (((stepC (chkB k l1 l2 l3) l2 l3 cr l).value).toInt), .int .i64 (((stepC (chkB k l1 l2 l3) l2 l3 cr l).seq).toInt)]]) (y_move rfl) rfl ?_
          refine s_y (v := .slice a_9 ((stepO (chkB k l1 l2 l3) l2 l3 cr l).length) c_10) (y_extract (v := .slice a_9 ((stepO (chkB k l1 l2 l3) l2 l3 cr l).length) c_10) rfl rfl) rfl ?_
          refine s_y (v := .agg #[.bool ((stepC (chkB k l1 l2 l3) l2 l3 cr l).dead), .int .i64 (((stepC (chkB k l1 l2 l3) l2 l3 cr l).key).toInt), .int .i64 (((stepC (chkB k l1 l2 l3) l2 l3 cr l).value).toInt), .int .i64 (((stepC (chkB k l1 l2 l3) l2 l3 cr l).seq).toInt)]) (y_extract (v := .agg #[.bool ((stepC (chkB k l1 l2 l3) l2 l3 cr l).dead), .int .i64 (((stepC (chkB k l1 l2 l3) l2 l3 cr l).key).toInt), .int .i64 (((stepC (chkB k l1 l2 l3) l2 l3 cr l).value).toInt), .int .i64 (((stepC (chkB k l1 l2 l3) l2 l3 cr l).seq).toInt)]) rfl rfl) rfl ?_
          refine s_e rfl ?_
          refine e_alloc (l := [.bool false, .int .i64 0, .int .i64 0, .int .i64 0]) Try.zeroValue23 rfl ?_
          intro b_13
          refine s_y (v := .slice a_9 ((stepO (chkB k l1 l2 l3) l2 l3 cr l).length) c_10) (y_assign rfl) rfl ?_
          refine s_e0 ?_
          refine e_store (vs := [.bool ((stepC (chkB k l1 l2 l3) l2 l3 cr l).dead), .int .i64 (((stepC (chkB k l1 l2 l3) l2 l3 cr l).key).toInt), .int .i64 (((stepC (chkB k l1 l2 l3) l2 l3 cr l).value).toInt), .int .i64 (((stepC (chkB k l1 l2 l3) l2 l3 cr l).seq).toInt)]) (l' := [.bool ((stepC (chkB k l1 l2 l3) l2 l3 cr l).dead), .int .i64 (((stepC (chkB k l1 l2 l3) l2 l3 cr l).key).toInt), .int .i64 (((stepC (chkB k l1 l2 l3) l2 l3 cr l).value).toInt), .int .i64 (((stepC (chkB k l1 l2 l3) l2 l3 cr l).seq).toInt)]) rfl rfl rfl rfl Try.sizeOf23 .h (Nat.le_of_ble_eq_true rfl) rfl ?_
          refine wpL_nil ?_
          refine thenS_n ?_
          refine wpS_seq ?_
          refine wpS_region ?_
          refine s_y (v := .agg #[.int .i64 k, .slice a1 n1 c1, .slice a2 n2 c2, .slice a3 n3 c3]) (y_loadN (vs := [.int .i64 k, .slice a1 n1 c1, .slice a2 n2 c2, .slice a3 n3 c3]) rfl Try.isAgg84 Try.sizeOf84 (ownN (.t (.t (.t (.t .h)))) rfl)) rfl ?_
          refine s_y (v := .agg #[.bool (cr.dead), .int .i64 (cr.key.toInt), .int .i64 (cr.value.toInt), .int .i64 (cr.seq.toInt)]) (y_loadN (vs := [.bool (cr.dead), .int .i64 (cr.key.toInt), .int .i64 (cr.value.toInt), .int .i64 (cr.seq.toInt)]) rfl Try.isAgg23 Try.sizeOf23 (ownN (.t (.t (.t .h))) rfl)) rfl ?_
          refine s_y (v := .slice a na ca) (y_move rfl) rfl ?_
          refine s_e rfl ?_
          refine e_call (f := 92) (args := #[.agg #[.int .i64 k, .slice a1 n1 c1, .slice a2 n2 c2, .slice a3 n3 c3], .agg #[.bool (cr.dead), .int .i64 (cr.key.toInt), .int .i64 (cr.value.toInt), .int .i64 (cr.seq.toInt)], .slice a na ca]) (X := Option Addr × Nat) (A := []) (M := [cel b_13 23 [.bool ((stepC (chkB k l1 l2 l3) l2 l3 cr l).dead), .int .i64 (((stepC (chkB k l1 l2 l3) l2 l3 cr l).key).toInt), .int .i64 (((stepC (chkB k l1 l2 l3) l2 l3 cr l).value).toInt), .int .i64 (((stepC (chkB k l1 l2 l3) l2 l3 cr l).seq).toInt)], osl a_9 c_10 ((stepO (chkB k l1 l2 l3) l2 l3 cr l).length) 4 23 ((stepO (chkB k l1 l2 l3) l2 l3 cr l).flatMap recV), osl (some ⟨b_7, 0, none⟩) (na + 3) (na + 3) 4 23 ((ownL l (Rec.mk false 71 0 0)).flatMap recV), cel b_2 23 [.bool (cr.dead), .int .i64 (cr.key.toInt), .int .i64 (cr.value.toInt), .int .i64 (cr.seq.toInt)], cel b_1 84 [.int .i64 k, .slice a1 n1 c1, .slice a2 n2 c2, .slice a3 n3 c3]]) (V := fun x => .tuple #[slV (stepO (chkB k l1 l2 l3) l2 l3 cr l) x, .agg #[.bool ((stepC (chkB k l1 l2 l3) l2 l3 cr l).dead), .int .i64 (((stepC (chkB k l1 l2 l3) l2 l3 cr l).key).toInt), .int .i64 (((stepC (chkB k l1 l2 l3) l2 l3 cr l).value).toInt), .int .i64 (((stepC (chkB k l1 l2 l3) l2 l3 cr l).seq).toInt)]]) (A' := fun x => [slR recV 4 23 (stepO (chkB k l1 l2 l3) l2 l3 cr l) x]) (C := fun _ => True) Try.call92 (ev3 rfl rfl rfl) (.p .h (.p .h (.p .h (.p .h (.p .h .nil))))) (fun w hs => rstep_c k a1 a2 a3 n1 c1 n2 c2 n3 c3 l1 l2 l3 cr a na ca l w hn1 ((oldR hr1) w hs) (by omega) hn2 ((oldR hr2) w hs) (by omega) hn3 ((oldR hr3) w hs) (by omega) hna ((oldR hra) w hs) (by omega)) ?_
          rintro ⟨a_14, c_15⟩ -
          have hso17 : (stepO (chkB k l1 l2 l3) l2 l3 cr l).length ≤ l.length := stepO_le
          try simp only [List.length_cons, List.length_nil, Nat.zero_add] at hso17
          refine s_y (v := .tuple #[.slice a_14 ((stepO (chkB k l1 l2 l3) l2 l3 cr l).length) c_15, .agg #[.bool ((stepC (chkB k l1 l2 l3) l2 l3 cr l).dead), .int .i64 (((stepC (chkB k l1 l2 l3) l2 l3 cr l).key).toInt), .int .i64 (((stepC (chkB k l1 l2 l3) l2 l3 cr l).value).toInt), .int .i64 (((stepC (chkB k l1 l2 l3) l2 l3 cr l).seq).toInt)]]) (y_move rfl) rfl ?_
          refine s_y (v := .slice a_14 ((stepO (chkB k l1 l2 l3) l2 l3 cr l).length) c_15) (y_extract (v := .slice a_14 ((stepO (chkB k l1 l2 l3) l2 l3 cr l).length) c_15) rfl rfl) rfl ?_
          refine s_y (v := .agg #[.bool ((stepC (chkB k l1 l2 l3) l2 l3 cr l).dead), .int .i64 (((stepC (chkB k l1 l2 l3) l2 l3 cr l).key).toInt), .int .i64 (((stepC (chkB k l1 l2 l3) l2 l3 cr l).value).toInt), .int .i64 (((stepC (chkB k l1 l2 l3) l2 l3 cr l).seq).toInt)]) (y_extract (v := .agg #[.bool ((stepC (chkB k l1 l2 l3) l2 l3 cr l).dead), .int .i64 (((stepC (chkB k l1 l2 l3) l2 l3 cr l).key).toInt), .int .i64 (((stepC (chkB k l1 l2 l3) l2 l3 cr l).value).toInt), .int .i64 (((stepC (chkB k l1 l2 l3) l2 l3 cr l).seq).toInt)]) rfl rfl) rfl ?_
          refine s_e rfl ?_
          refine e_alloc (l := [.bool false, .int .i64 0, .int .i64 0, .int .i64 0]) Try.zeroValue23 rfl ?_
          intro b_18
          refine s_y (v := .slice a_14 ((stepO (chkB k l1 l2 l3) l2 l3 cr l).length) c_15) (y_assign rfl) rfl ?_
          refine s_e0 ?_
          refine e_store (vs := [.bool ((stepC (chkB k l1 l2 l3) l2 l3 cr l).dead), .int .i64 (((stepC (chkB k l1 l2 l3) l2 l3 cr l).key).toInt), .int .i64 (((stepC (chkB k l1 l2 l3) l2 l3 cr l).value).toInt), .int .i64 (((stepC (chkB k l1 l2 l3) l2 l3 cr l).seq).toInt)]) (l' := [.bool ((stepC (chkB k l1 l2 l3) l2 l3 cr l).dead), .int .i64 (((stepC (chkB k l1 l2 l3) l2 l3 cr l).key).toInt), .int .i64 (((stepC (chkB k l1 l2 l3) l2 l3 cr l).value).toInt), .int .i64 (((stepC (chkB k l1 l2 l3) l2 l3 cr l).seq).toInt)]) rfl rfl rfl rfl Try.sizeOf23 .h (Nat.le_of_ble_eq_true rfl) rfl ?_
          refine wpL_nil ?_
          refine thenS_n ?_
          refine wpS_seq ?_
          refine wpS_region ?_
          refine s_y (v := .bool true) (y_call (args := #[]) (v := .bool true) Try.call90 ev0 (fun w hs => awake15_c w)) rfl ?_
          refine s_y (v := .bool true) (y_move rfl) rfl ?_
          refine s_gy (y_move rfl) rfl rfl rfl rfl rfl rfl ?_
          refine s_gy (y_move rfl) rfl rfl rfl rfl rfl rfl ?_
          refine s_gy (y_call (args := #[.slice a_9 ((stepO (chkB k l1 l2 l3) l2 l3 cr l).length) c_10, .slice a_14 ((stepO (chkB k l1 l2 l3) l2 l3 cr l).length) c_15]) (v := .bool (decide ((stepO (chkB k l1 l2 l3) l2 l3 cr l) = (stepO (chkB k l1 l2 l3) l2 l3 cr l)))) Try.call77 (ev2 rfl rfl) (fun w hs => plain_c a_9 a_14 ((stepO (chkB k l1 l2 l3) l2 l3 cr l).length) c_10 ((stepO (chkB k l1 l2 l3) l2 l3 cr l).length) c_15 (stepO (chkB k l1 l2 l3) l2 l3 cr l) (stepO (chkB k l1 l2 l3) l2 l3 cr l) w rfl rfl (oslR (.t (.t (.t .h))) w hs) (oslR (.t .h) w hs) (by omega) (by omega))) rfl rfl rfl rfl rfl rfl ?_
          refine s_y (v := .bool (decide ((stepO (chkB k l1 l2 l3) l2 l3 cr l) = (stepO (chkB k l1 l2 l3) l2 l3 cr l)))) (y_pickT (v := .bool (decide ((stepO (chkB k l1 l2 l3) l2 l3 cr l) = (stepO (chkB k l1 l2 l3) l2 l3 cr l)))) rfl rfl rfl) rfl ?_
          refine s_y (v := .bool (decide ((stepO (chkB k l1 l2 l3) l2 l3 cr l) = (stepO (chkB k l1 l2 l3) l2 l3 cr l)))) (y_move rfl) rfl ?_
          refine s_gy (y_loadN (vs := [.bool ((stepC (chkB k l1 l2 l3) l2 l3 cr l).dead), .int .i64 (((stepC (chkB k l1 l2 l3) l2 l3 cr l).key).toInt), .int .i64 (((stepC (chkB k l1 l2 l3) l2 l3 cr l).value).toInt), .int .i64 (((stepC (chkB k l1 l2 l3) l2 l3 cr l).seq).toInt)]) rfl Try.isAgg23 Try.sizeOf23 (ownN (.t (.t .h)) rfl)) rfl rfl rfl rfl (b' := decide ((stepO (chkB k l1 l2 l3) l2 l3 cr l) = (stepO (chkB k l1 l2 l3) l2 l3 cr l))) rfl (decide_eq_true rfl) ?_
          refine s_gy (y_loadN (vs := [.bool ((stepC (chkB k l1 l2 l3) l2 l3 cr l).dead), .int .i64 (((stepC (chkB k l1 l2 l3) l2 l3 cr l).key).toInt), .int .i64 (((stepC (chkB k l1 l2 l3) l2 l3 cr l).value).toInt), .int .i64 (((stepC (chkB k l1 l2 l3) l2 l3 cr l).seq).toInt)]) rfl Try.isAgg23 Try.sizeOf23 (ownN .h rfl)) rfl rfl rfl rfl (b' := decide ((stepO (chkB k l1 l2 l3) l2 l3 cr l) = (stepO (chkB k l1 l2 l3) l2 l3 cr l))) rfl (decide_eq_true rfl) ?_
          refine s_gy (y_eqlS (a := #[.bool ((stepC (chkB k l1 l2 l3) l2 l3 cr l).dead), .int .i64 (((stepC (chkB k l1 l2 l3) l2 l3 cr l).key).toInt), .int .i64 (((stepC (chkB k l1 l2 l3) l2 l3 cr l).value).toInt), .int .i64 (((stepC (chkB k l1 l2 l3) l2 l3 cr l).seq).toInt)]) (b := #[.bool ((stepC (chkB k l1 l2 l3) l2 l3 cr l).dead), .int .i64 (((stepC (chkB k l1 l2 l3) l2 l3 cr l).key).toInt), .int .i64 (((stepC (chkB k l1 l2 l3) l2 l3 cr l).value).toInt), .int .i64 (((stepC (chkB k l1 l2 l3) l2 l3 cr l).seq).toInt)]) (c := decide ((stepC (chkB k l1 l2 l3) l2 l3 cr l) = (stepC (chkB k l1 l2 l3) l2 l3 cr l))) Try.eqGuardType23 (fun w => equalR w (stepC (chkB k l1 l2 l3) l2 l3 cr l) (stepC (chkB k l1 l2 l3) l2 l3 cr l)) rfl rfl) rfl rfl rfl rfl (b' := decide ((stepO (chkB k l1 l2 l3) l2 l3 cr l) = (stepO (chkB k l1 l2 l3) l2 l3 cr l))) rfl (decide_eq_true rfl) ?_
          refine s_y (v := .bool (decide ((stepC (chkB k l1 l2 l3) l2 l3 cr l) = (stepC (chkB k l1 l2 l3) l2 l3 cr l)))) (y_pickT (b := decide ((stepO (chkB k l1 l2 l3) l2 l3 cr l) = (stepO (chkB k l1 l2 l3) l2 l3 cr l))) (v := .bool (decide ((stepC (chkB k l1 l2 l3) l2 l3 cr l) = (stepC (chkB k l1 l2 l3) l2 l3 cr l)))) rfl (decide_eq_true rfl) rfl) rfl ?_
          refine s_y (v := .bool (decide ((stepC (chkB k l1 l2 l3) l2 l3 cr l) = (stepC (chkB k l1 l2 l3) l2 l3 cr l)))) (y_move rfl) rfl ?_
          refine s_gy (y_move rfl) rfl rfl rfl rfl (b' := decide ((stepC (chkB k l1 l2 l3) l2 l3 cr l) = (stepC (chkB k l1 l2 l3) l2 l3 cr l))) rfl (decide_eq_true rfl) ?_
          refine s_gy (y_move rfl) rfl rfl rfl rfl (b' := decide ((stepC (chkB k l1 l2 l3) l2 l3 cr l) = (stepC (chkB k l1 l2 l3) l2 l3 cr l))) rfl (decide_eq_true rfl) ?_
          refine s_gy (y_buildL (m := [(1, .int .i64 71)]) (vs := #[.bool false, .int .i64 71, .int .i64 0, .int .i64 0]) (evc rfl evn) (fun w => by kernel_rfl)) rfl rfl rfl rfl (b' := decide ((stepC (chkB k l1 l2 l3) l2 l3 cr l) = (stepC (chkB k l1 l2 l3) l2 l3 cr l))) rfl (decide_eq_true rfl) ?_
          refine s_gy (y_call (args := #[.slice (some ⟨b_7, 0, none⟩) na (na + 3), .slice a na ca, .agg #[.bool false, .int .i64 71, .int .i64 0, .int .i64 0]]) (v := .bool true) Try.call81 (ev3 rfl rfl rfl) (fun w hs => keptR_c b_7 a na ca l (Rec.mk false 71 0 0) w hna ((oldR hra) w hs) (by omega) (oslR (.t (.t (.t (.t .h)))) w hs))) rfl rfl rfl rfl (b' := decide ((stepC (chkB k l1 l2 l3) l2 l3 cr l) = (stepC (chkB k l1 l2 l3) l2 l3 cr l))) rfl (decide_eq_true rfl) ?_
          refine s_y (v := .bool true) (y_pickT (b := decide ((stepC (chkB k l1 l2 l3) l2 l3 cr l) = (stepC (chkB k l1 l2 l3) l2 l3 cr l))) (v := .bool true) rfl (decide_eq_true rfl) rfl) rfl ?_
          refine s_y (v := .bool true) (y_assign rfl) rfl ?_
          refine wpL_nil ?_
          refine thenS_n ?_
          refine wpS_ret ?_
          refine fin1 (v := .bool true) (.inr rfl) (.nil) Try.results24 rfl ?_
          exact fun w' hs => ⟨rfl, hs⟩

end Go.Proofs.Ytldkjjnjdjfipaa
