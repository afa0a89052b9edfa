/- ChainCuts, walked. -/
import Derived.Test.YtldkjjnjdjfipaaWRef11
import Derived.Test.YtldkjjnjdjfipaaWChn2
import Derived.Test.YtldkjjnjdjfipaaP15c
import Derived.Test.YtldkjjnjdjfipaaRdr
namespace Go.Proofs.Ytldkjjnjdjfipaa
open Go Go.RowKit
set_option linter.unusedVariables false
set_option linter.unusedSimpArgs false
set_option maxRecDepth 10000
set_option maxHeartbeats 1000000

theorem cuts_law (k : Int) (a1 a2 a3 : Option Addr) (n1 c1 n2 c2 n3 c3 : Nat) (l1 l2 l3 : List Opc) (a : Option Addr) (na ca : Nat) (l : List Rec) (d : Option Addr) (nd cd : Nat) (cs : List Int) (w : World) (hn1 : l1.length = n1) (hr1 : Rds w a1 (l1.flatMap opcV)) (hb1 : n1 ≤ 9223372036854775807) (hn2 : l2.length = n2) (hr2 : Rds w a2 (l2.flatMap opcV)) (hb2 : n2 ≤ 9223372036854775807) (hn3 : l3.length = n3) (hr3 : Rds w a3 (l3.flatMap opcV)) (hb3 : n3 ≤ 9223372036854775807) (hna : l.length = na) (hra : Rds w a (l.flatMap recV)) (hnd : cs.length = nd) (hrd : Rds w d (cs.flatMap intV)) : Pure Try.prog 25 #[.agg #[.int .i64 k, .slice a1 n1 c1, .slice a2 n2 c2, .slice a3 n3 c3], .slice a na ca, .slice d nd cd] w (.bool true) := by
  refine calls_S (n := 95) (σ0 := (upd (upd (upd fr0 0 (.agg #[.int .i64 k, .slice a1 n1 c1, .slice a2 n2 c2, .slice a3 n3 c3])) 1 (.slice a na ca)) 2 (.slice d nd cd))) (D := []) (A := []) Try.func25 rfl Try.ntmps25 rfl (a3_fr _ _ _) (SH.start w) ?_
  refine wpS_seq ?_
  refine wpS_region ?_
  refine s_e rfl ?_
  refine e_box (v := .agg #[.int .i64 k, .slice a1 n1 c1, .slice a2 n2 c2, .slice a3 n3 c3]) (l := [.int .i64 k, .slice a1 n1 c1, .slice a2 n2 c2, .slice a3 n3 c3]) rfl rfl ?_
  intro b_1
  refine s_y (v := .bool false) (y_assign rfl) rfl ?_
  refine wpL_nil ?_
  refine thenS_n ?_
  refine wpS_seq ?_
  refine wpS_seq ?_
  refine wpS_region ?_
  refine s_y (v := .slice a na ca) (y_move rfl) rfl ?_
  refine s_y (v := .int .i64 (((na : Nat) : Int))) (y_len (ty' := 0) (at_ := #[]) rfl Try.underlying69) rfl ?_
  refine s_y (v := .bool (decide ((60 : Nat) < na))) (y_gtr (a := ((na : Nat) : Int)) (b := 60) (c := decide ((60 : Nat) < na)) rfl rfl (decide_eq_decide.2 (by omega))) rfl ?_
  refine s_y (v := .bool (decide ((60 : Nat) < na))) (y_move rfl) rfl ?_
  rcases Bool.eq_false_or_eq_true (decide ((60 : Nat) < na)) with b2 | b2
  · -- decide ((60 : Nat) < na) True
    have p2 := of_decide_eq_true b2
    refine s_no rfl rfl rfl rfl (b' := decide ((60 : Nat) < na)) rfl b2 ?_
    refine s_no rfl rfl rfl rfl (b' := decide ((60 : Nat) < na)) rfl b2 ?_
    refine s_no rfl rfl rfl rfl (b' := decide ((60 : Nat) < na)) rfl b2 ?_
    refine s_y (v := .bool true) (y_pickT (b := decide ((60 : Nat) < na)) (v := .bool true) rfl b2 rfl) rfl ?_
    refine s_y (v := .bool true) (y_move rfl) rfl ?_
    refine s_no rfl rfl rfl rfl rfl rfl ?_
    refine s_no rfl rfl rfl rfl rfl rfl ?_
    refine s_no rfl rfl rfl rfl rfl rfl ?_
    refine s_y (v := .bool true) (y_pickT (v := .bool true) rfl rfl rfl) rfl ?_
    refine wpL_nil ?_
    refine thenS_n ?_
    refine wpS_cond_t rfl ?_
    refine wpS_seq ?_
    refine wpS_region ?_
    refine s_y (v := .bool true) (y_call (args := #[]) (v := .bool true) Try.call90 ev0 (fun w hs => awake15_c w)) rfl ?_
    refine s_y (v := .bool true) (y_assign rfl) rfl ?_
    refine wpL_nil ?_
    refine thenS_n ?_
    refine wpS_ret ?_
    refine thenS_r ?_
    refine fin1 (v := .bool true) (.inr rfl) (.nil) Try.results25 rfl ?_
    exact fun w' hs => ⟨rfl, hs⟩
  · -- decide ((60 : Nat) < na) False
    have p2 := of_decide_eq_false b2
    refine s_gy (y_move rfl) rfl rfl rfl rfl (b' := decide ((60 : Nat) < na)) rfl b2 ?_
    refine s_gy (y_len (ty' := 0) (at_ := #[]) rfl Try.underlying39) rfl rfl rfl rfl (b' := decide ((60 : Nat) < na)) rfl b2 ?_
    refine s_gy (y_gtr (a := ((nd : Nat) : Int)) (b := 10) (c := decide ((10 : Nat) < nd)) rfl rfl (decide_eq_decide.2 (by omega))) rfl rfl rfl rfl (b' := decide ((60 : Nat) < na)) rfl b2 ?_
    refine s_y (v := .bool (decide ((10 : Nat) < nd))) (y_pickF (b := decide ((60 : Nat) < na)) (v := .bool (decide ((10 : Nat) < nd))) rfl b2 rfl) rfl ?_
    refine s_y (v := .bool (decide ((10 : Nat) < nd))) (y_move rfl) rfl ?_
    rcases Bool.eq_false_or_eq_true (decide ((10 : Nat) < nd)) with b3 | b3
    · -- decide ((10 : Nat) < nd) True
      have p3 := of_decide_eq_true b3
      refine s_no rfl rfl rfl rfl (b' := decide ((10 : Nat) < nd)) rfl b3 ?_
      refine s_no rfl rfl rfl rfl (b' := decide ((10 : Nat) < nd)) rfl b3 ?_
      refine s_no rfl rfl rfl rfl (b' := decide ((10 : Nat) < nd)) rfl b3 ?_
      refine s_y (v := .bool true) (y_pickT (b := decide ((10 : Nat) < nd)) (v := .bool true) rfl b3 rfl) rfl ?_
      refine wpL_nil ?_
      refine thenS_n ?_
      refine wpS_cond_t rfl ?_
      refine wpS_seq ?_
      refine wpS_region ?_
      refine s_y (v := .bool true) (y_call (args := #[]) (v := .bool true) Try.call90 ev0 (fun w hs => awake15_c w)) rfl ?_
      refine s_y (v := .bool true) (y_assign rfl) rfl ?_
      refine wpL_nil ?_
      refine thenS_n ?_
      refine wpS_ret ?_
      refine thenS_r ?_
      refine fin1 (v := .bool true) (.inr rfl) (.nil) Try.results25 rfl ?_
      exact fun w' hs => ⟨rfl, hs⟩
    · -- decide ((10 : Nat) < nd) False
      have p3 := of_decide_eq_false b3
      refine s_gy (y_loadN (vs := [.int .i64 k, .slice a1 n1 c1, .slice a2 n2 c2, .slice a3 n3 c3]) rfl Try.isAgg84 Try.sizeOf84 (ownN .h rfl)) rfl rfl rfl rfl (b' := decide ((10 : Nat) < nd)) rfl b3 ?_
      refine s_gy (y_call (args := #[.agg #[.int .i64 k, .slice a1 n1 c1, .slice a2 n2 c2, .slice a3 n3 c3]]) (v := .int .i64 (chk11 k l1 l2 l3)) Try.call93 (ev1 rfl) (fun w hs => rcheck_c k a1 a2 a3 n1 c1 n2 c2 n3 c3 l1 l2 l3 w hn1 ((oldR hr1) w hs) (by omega) hn2 ((oldR hr2) w hs) (by omega) hn3 ((oldR hr3) w hs) (by omega))) rfl rfl rfl rfl (b' := decide ((10 : Nat) < nd)) rfl b3 ?_
      refine s_gy (y_neq (a := chk11 k l1 l2 l3) (b := 0) rfl rfl rfl) rfl rfl rfl rfl (b' := decide ((10 : Nat) < nd)) rfl b3 ?_
      refine s_y (v := .bool (decide ((chk11 k l1 l2 l3 : Int) ≠ 0))) (y_pickF (b := decide ((10 : Nat) < nd)) (v := .bool (decide ((chk11 k l1 l2 l3 : Int) ≠ 0))) rfl b3 rfl) rfl ?_
      refine wpL_nil ?_
      refine thenS_n ?_
      refine wpS_cond (t := decide ((chk11 k l1 l2 l3 : Int) ≠ 0)) rfl (fun b4 => ?_) (fun b4 => ?_)
      · -- decide ((chk11 k l1 l2 l3 : Int) ≠ 0) true
        have p4 := of_decide_eq_true b4
        have hno : chkB k l1 l2 l3 = false := chk_no p4
        refine wpS_seq ?_
        refine wpS_region ?_
        refine s_y (v := .bool true) (y_call (args := #[]) (v := .bool true) Try.call90 ev0 (fun w hs => awake15_c w)) rfl ?_
        refine s_y (v := .bool true) (y_assign rfl) rfl ?_
        refine wpL_nil ?_
        refine thenS_n ?_
        refine wpS_ret ?_
        refine thenS_r ?_
        refine fin1 (v := .bool true) (.inr rfl) (.nil) Try.results25 rfl ?_
        exact fun w' hs => ⟨rfl, hs⟩
      · -- decide ((chk11 k l1 l2 l3 : Int) ≠ 0) false
        have p4 := of_decide_eq_false b4
        have hok : chkB k l1 l2 l3 = true := chk_yes (Decidable.not_not.1 p4)
        obtain ⟨hk1, hk4, hp1, hp2, hp3⟩ := chk_bd hok
        have hq1 := part_len hp1
        have hq2 := part_len hp2
        have hq3 := part_len hp3
        refine wpS_skip ?_
        refine thenS_n ?_
        refine wpS_seq ?_
        refine wpS_region ?_
        refine s_y (v := .agg #[.int .i64 k, .slice a1 n1 c1, .slice a2 n2 c2, .slice a3 n3 c3]) (y_loadN (vs := [.int .i64 k, .slice a1 n1 c1, .slice a2 n2 c2, .slice a3 n3 c3]) rfl Try.isAgg84 Try.sizeOf84 (ownN .h rfl)) rfl ?_
        refine s_y (v := .agg #[.bool true, .int .i64 0, .int .i64 0, .int .i64 0]) (y_buildL (m := [(0, .bool true)]) (vs := #[.bool true, .int .i64 0, .int .i64 0, .int .i64 0]) (evc rfl evn) (fun w => by kernel_rfl)) rfl ?_
        refine s_y (v := .slice a na ca) (y_move rfl) rfl ?_
        refine s_e rfl ?_
        refine e_call (f := 91) (args := #[.agg #[.int .i64 k, .slice a1 n1 c1, .slice a2 n2 c2, .slice a3 n3 c3], .agg #[.bool true, .int .i64 0, .int .i64 0, .int .i64 0], .slice a na ca]) (X := Option Addr × Nat) (A := []) (M := [cel b_1 84 [.int .i64 k, .slice a1 n1 c1, .slice a2 n2 c2, .slice a3 n3 c3]]) (V := fun x => .tuple #[slV (stepO (chkB k l1 l2 l3) l2 l3 (Rec.mk true 0 0 0) l) x, .agg #[.bool ((stepC (chkB k l1 l2 l3) l2 l3 (Rec.mk true 0 0 0) l).dead), .int .i64 (((stepC (chkB k l1 l2 l3) l2 l3 (Rec.mk true 0 0 0) l).key).toInt), .int .i64 (((stepC (chkB k l1 l2 l3) l2 l3 (Rec.mk true 0 0 0) l).value).toInt), .int .i64 (((stepC (chkB k l1 l2 l3) l2 l3 (Rec.mk true 0 0 0) l).seq).toInt)]]) (A' := fun x => [slR recV 4 23 (stepO (chkB k l1 l2 l3) l2 l3 (Rec.mk true 0 0 0) l) x]) (C := fun _ => True) Try.call91 (ev3 rfl rfl rfl) (.p .h .nil) (fun w hs => cstep_c k a1 a2 a3 n1 c1 n2 c2 n3 c3 l1 l2 l3 (Rec.mk true 0 0 0) a na ca l w hn1 ((oldR hr1) w hs) (by omega) hn2 ((oldR hr2) w hs) (by omega) hn3 ((oldR hr3) w hs) (by omega) hna ((oldR hra) w hs) (by omega)) ?_
        rintro ⟨a_5, c_6⟩ -
        have hso8 : (stepO (chkB k l1 l2 l3) l2 l3 (Rec.mk true 0 0 0) l).length = l.length := stepO_len hok
        try simp only [List.length_cons, List.length_nil, Nat.zero_add] at hso8
        try have hxsl : (xs ++ (stepO (chkB k l1 l2 l3) l2 l3 (Rec.mk true 0 0 0) l)).length = xs.length + (stepO (chkB k l1 l2 l3) l2 l3 (Rec.mk true 0 0 0) l).length := List.length_append
        refine s_y (v := .tuple #[.slice a_5 ((stepO (chkB k l1 l2 l3) l2 l3 (Rec.mk true 0 0 0) l).length) c_6, .agg #[.bool ((stepC (chkB k l1 l2 l3) l2 l3 (Rec.mk true 0 0 0) l).dead), .int .i64 (((stepC (chkB k l1 l2 l3) l2 l3 (Rec.mk true 0 0 0) l).key).toInt), .int .i64 (((stepC (chkB k l1 l2 l3) l2 l3 (Rec.mk true 0 0 0) l).value).toInt), .int .i64 (((stepC (chkB k l1 l2 l3) l2 l3 (Rec.mk true 0 0 0) l).seq).toInt)]]) (y_move rfl) rfl ?_
        refine s_y (v := .slice a_5 ((stepO (chkB k l1 l2 l3) l2 l3 (Rec.mk true 0 0 0) l).length) c_6) (y_extract (v := .slice a_5 ((stepO (chkB k l1 l2 l3) l2 l3 (Rec.mk true 0 0 0) l).length) c_6) rfl rfl) rfl ?_
        refine s_y (v := .agg #[.bool ((stepC (chkB k l1 l2 l3) l2 l3 (Rec.mk true 0 0 0) l).dead), .int .i64 (((stepC (chkB k l1 l2 l3) l2 l3 (Rec.mk true 0 0 0) l).key).toInt), .int .i64 (((stepC (chkB k l1 l2 l3) l2 l3 (Rec.mk true 0 0 0) l).value).toInt), .int .i64 (((stepC (chkB k l1 l2 l3) l2 l3 (Rec.mk true 0 0 0) l).seq).toInt)]) (y_extract (v := .agg #[.bool ((stepC (chkB k l1 l2 l3) l2 l3 (Rec.mk true 0 0 0) l).dead), .int .i64 (((stepC (chkB k l1 l2 l3) l2 l3 (Rec.mk true 0 0 0) l).key).toInt), .int .i64 (((stepC (chkB k l1 l2 l3) l2 l3 (Rec.mk true 0 0 0) l).value).toInt), .int .i64 (((stepC (chkB k l1 l2 l3) l2 l3 (Rec.mk true 0 0 0) l).seq).toInt)]) rfl rfl) rfl ?_
        refine s_e rfl ?_
        refine e_alloc (l := [.bool false, .int .i64 0, .int .i64 0, .int .i64 0]) Try.zeroValue23 rfl ?_
        intro b_9
        refine s_y (v := .slice a_5 ((stepO (chkB k l1 l2 l3) l2 l3 (Rec.mk true 0 0 0) l).length) c_6) (y_assign rfl) rfl ?_
        refine s_e0 ?_
        refine e_store (vs := [.bool ((stepC (chkB k l1 l2 l3) l2 l3 (Rec.mk true 0 0 0) l).dead), .int .i64 (((stepC (chkB k l1 l2 l3) l2 l3 (Rec.mk true 0 0 0) l).key).toInt), .int .i64 (((stepC (chkB k l1 l2 l3) l2 l3 (Rec.mk true 0 0 0) l).value).toInt), .int .i64 (((stepC (chkB k l1 l2 l3) l2 l3 (Rec.mk true 0 0 0) l).seq).toInt)]) (l' := [.bool ((stepC (chkB k l1 l2 l3) l2 l3 (Rec.mk true 0 0 0) l).dead), .int .i64 (((stepC (chkB k l1 l2 l3) l2 l3 (Rec.mk true 0 0 0) l).key).toInt), .int .i64 (((stepC (chkB k l1 l2 l3) l2 l3 (Rec.mk true 0 0 0) l).value).toInt), .int .i64 (((stepC (chkB k l1 l2 l3) l2 l3 (Rec.mk true 0 0 0) l).seq).toInt)]) rfl rfl rfl rfl Try.sizeOf23 .h (Nat.le_of_ble_eq_true rfl) rfl ?_
        refine wpL_nil ?_
        refine thenS_n ?_
        refine wpS_seq ?_
        refine wpS_region ?_
        refine s_y (v := .slice none 0 0) (y_assign rfl) rfl ?_
        refine wpL_nil ?_
        refine thenS_n ?_
        refine wpS_seq ?_
        refine wpS_region ?_
        refine s_y (v := .agg #[.bool true, .int .i64 0, .int .i64 0, .int .i64 0]) (y_buildL (m := [(0, .bool true)]) (vs := #[.bool true, .int .i64 0, .int .i64 0, .int .i64 0]) (evc rfl evn) (fun w => by kernel_rfl)) rfl ?_
        refine s_e rfl ?_
        refine e_alloc (l := [.bool false, .int .i64 0, .int .i64 0, .int .i64 0]) Try.zeroValue23 rfl ?_
        intro b_10
        refine s_e0 ?_
        refine e_store (vs := [.bool true, .int .i64 0, .int .i64 0, .int .i64 0]) (l' := [.bool true, .int .i64 0, .int .i64 0, .int .i64 0]) rfl rfl rfl rfl Try.sizeOf23 .h (Nat.le_of_ble_eq_true rfl) rfl ?_
        refine wpL_nil ?_
        refine thenS_n ?_
        refine wpS_seq ?_
        refine wpS_region ?_
        refine s_y (v := .slice a na ca) (y_move rfl) rfl ?_
        refine s_e rfl ?_
        refine OpE.ent (fun w hs => SH.nil0 (sz := 4) (t := 23) w hs) ?_
        refine e_appendL (enc := recV) (xs := ([] : List Rec)) (ns := (l : List Rec)) (zs := l) (bytes := 32) recV_len recV_one Try.underlying69 (i := Try.t23) rfl rfl rfl rfl rfl (by decide) rfl rfl (by first | rfl | omega) (by first | rfl | omega) .h (oldR hra) (by first | rfl | simp) (by (try simp only [List.length_append, List.length_cons, List.length_nil] at *); omega) (by (try simp only [List.length_append, List.length_cons, List.length_nil] at *); omega) ?_
        intro a_12 c_13
        refine s_y (v := .slice a_12 l.length c_13) (y_assign rfl) rfl ?_
        refine wpL_nil ?_
        refine thenS_n ?_
        refine wpS_seq ?_
        refine wpS_seq ?_
        refine wpS_region ?_
        refine s_y (v := .int .i64 0) (y_assign rfl) rfl ?_
        refine wpL_nil ?_
        refine thenS_n ?_
        refine wpS_block ?_
        refine wpS_cap .h (fun hcap => ?_)
        refine wpS_sh (fun w hs => SH.toRdr .h hs) ?_
        refine wpS_nil0 4 23 ?_
        refine wpS_loop (fun mez ds σ L => ∃ i : Nat, ∃ p : Nat, ∃ xs : List Rec, ∃ cq : Rec, ∃ cr : Rec, ∃ ra : Option Addr, ∃ rl : Nat, ∃ rc : Nat, ∃ b1 : Option Addr, ∃ d1 : Nat, mez = nd - i ∧ (i ≤ nd) ∧ (p ≤ na) ∧ (xs.length = p) ∧ (run15 (chkB k l1 l2 l3) l2 l3 ([], deadR) (l.take p) = (xs, cq)) ∧ (cr = normC cq) ∧ (rl ≤ rc) ∧ (rl = na - p) ∧ ds = [] ∧ σ 2 = .slice d nd cd ∧ σ 3 = .pointer (some ⟨b_1, 0, none⟩) ∧ σ 7 = .slice a_5 ((stepO (chkB k l1 l2 l3) l2 l3 (Rec.mk true 0 0 0) l).length) c_6 ∧ σ 8 = .pointer (some ⟨b_9, 0, none⟩) ∧ σ 9 = .slice b1 xs.length d1 ∧ σ 10 = .pointer (some ⟨b_10, 0, none⟩) ∧ σ 11 = .slice ra rl rc ∧ σ 12 = .int .i64 (((i : Nat) : Int)) ∧ Ent L [osl b1 d1 xs.length 4 23 (xs.flatMap recV), rdr ra ((l.drop p).flatMap recV), cel b_10 23 [.bool (cr.dead), .int .i64 (cr.key.toInt), .int .i64 (cr.value.toInt), .int .i64 (cr.seq.toInt)], cel b_9 23 [.bool ((stepC (chkB k l1 l2 l3) l2 l3 (Rec.mk true 0 0 0) l).dead), .int .i64 (((stepC (chkB k l1 l2 l3) l2 l3 (Rec.mk true 0 0 0) l).key).toInt), .int .i64 (((stepC (chkB k l1 l2 l3) l2 l3 (Rec.mk true 0 0 0) l).value).toInt), .int .i64 (((stepC (chkB k l1 l2 l3) l2 l3 (Rec.mk true 0 0 0) l).seq).toInt)], osl a_5 c_6 ((stepO (chkB k l1 l2 l3) l2 l3 (Rec.mk true 0 0 0) l).length) 4 23 ((stepO (chkB k l1 l2 l3) l2 l3 (Rec.mk true 0 0 0) l).flatMap recV), cel b_1 84 [.int .i64 k, .slice a1 n1 c1, .slice a2 n2 c2, .slice a3 n3 c3]]) (m0 := nd - 0) ⟨0, 0, [], deadR, (Rec.mk true 0 0 0), a_12, l.length, c_13, none, 0, rfl, by omega, by omega, rfl, rfl, rfl, (by first | omega | exact hcap), (by omega), rfl, rfl, rfl, rfl, rfl, rfl, rfl, rfl, rfl, .p .h (.p .h (.p .h (.p .h (.p .h (.p .h .nil)))))⟩ ?_
        rintro mez ds σ L ⟨i, p, xs, cq, cr, ra, rl, rc, b1, d1, hm_14, hf0_14, hf1_14, hf2_14, hf3_14, hf4_14, hf5_14, hf6_14, rfl, h2_14, h3_14, h7_14, h8_14, h9_14, h10_14, h11_14, h12_14, hE_14⟩
        refine wpS_ent hE_14 ?_; clear hE_14
        have hdl : (l.drop p).length = na - p := by rw [List.length_drop]; omega
        have hml := Nat.mod_lt (u64of (cs.getD i default)) (show 0 < rl + 1 by omega)
        have htl : ((l.drop p).take (u64of (cs.getD i default) % (rl + 1))).length = (u64of (cs.getD i default) % (rl + 1)) := by rw [List.length_take]; omega
        refine wpS_seq ?_
        refine wpS_seq ?_
        refine wpS_region ?_
        refine s_y (v := .int .i64 (((i : Nat) : Int))) (y_move h12_14) rfl ?_
        refine s_y (v := .slice d nd cd) (y_move h2_14) rfl ?_
        refine s_y (v := .int .i64 (((nd : Nat) : Int))) (y_len (ty' := 0) (at_ := #[]) rfl Try.underlying39) rfl ?_
        refine s_y (v := .bool (decide (i < nd))) (y_lss (a := ((i : Nat) : Int)) (b := ((nd : Nat) : Int)) (c := decide (i < nd)) rfl rfl (decide_eq_decide.2 (by omega))) rfl ?_
        refine wpL_nil ?_
        refine thenS_n ?_
        refine wpS_cond (t := decide (i < nd)) rfl (fun b15 => ?_) (fun b15 => ?_)
        · -- decide (i < nd) true
          have p15 := of_decide_eq_true b15
          refine wpS_skip ?_
          refine thenS_n ?_
          refine wpS_seq ?_
          refine wpS_block ?_
          refine wpS_seq ?_
          refine wpS_region ?_
          refine s_y (v := .slice d nd cd) (y_move h2_14) rfl ?_
          refine s_y (v := .int .i64 (((i : Nat) : Int))) (y_move h12_14) rfl ?_
          refine s_y (v := .pointer (some ⟨aB d, aO d + i * 1, none⟩)) (y_idx (o := i * 1) rfl rfl Try.underlying39 Try.sizeOf3 (oldR hrd) ((fl_len intV_len _).trans (by first | omega | (simp only [List.length_set, List.length_take, List.length_drop]; done) | (simp only [List.length_set, List.length_take, List.length_drop]; omega))) (by decide) (by omega) (by omega) (by omega)) rfl ?_
          refine s_y (v := .int .i64 ((cs.getD i default))) (y_load1 (v := .int .i64 ((cs.getD i default))) rfl Try.isAgg3 (rd1 (k := i * 1) (oldR hrd) (fl_get0 intV_len cs i (by first | omega | (simp only [List.length_set, List.length_take, List.length_drop]; done) | (simp only [List.length_set, List.length_take, List.length_drop]; omega)) rfl))) rfl ?_
          refine s_y (v := .int .u64 ((((u64of (cs.getD i default)) : Nat) : Int))) (y_convI (a := (cs.getD i default)) (c := (((u64of (cs.getD i default)) : Nat) : Int)) rfl Try.underlying3 Try.underlying46 (u64of_wrap _)) rfl ?_
          refine s_y (v := .slice ra rl rc) (y_move h11_14) rfl ?_
          refine s_y (v := .int .i64 (((rl : Nat) : Int))) (y_len (ty' := 0) (at_ := #[]) rfl Try.underlying69) rfl ?_
          refine s_y (v := .int .i64 ((((rl + 1) : Nat) : Int))) (y_add (a := ((rl : Nat) : Int)) (b := 1) (c := (((rl + 1) : Nat) : Int)) rfl rfl (wI (by omega) (by omega) (by omega))) rfl ?_
          refine s_y (v := .int .u64 ((((rl + 1) : Nat) : Int))) (y_convI (a := (((rl + 1) : Nat) : Int)) (c := (((rl + 1) : Nat) : Int)) rfl Try.underlying3 Try.underlying46 (wU rfl (by omega) (by omega))) rfl ?_
          refine s_y (v := .int .u64 ((((u64of (cs.getD i default) % (rl + 1)) : Nat) : Int))) (y_rem (a := (((u64of (cs.getD i default)) : Nat) : Int)) (b := (((rl + 1) : Nat) : Int)) (c := (((u64of (cs.getD i default) % (rl + 1)) : Nat) : Int)) rfl rfl (by omega) (n_rem _ _ (by omega))) rfl ?_
          refine s_y (v := .int .i64 ((((u64of (cs.getD i default) % (rl + 1)) : Nat) : Int))) (y_convI (a := (((u64of (cs.getD i default) % (rl + 1)) : Nat) : Int)) (c := (((u64of (cs.getD i default) % (rl + 1)) : Nat) : Int)) rfl Try.underlying46 Try.underlying3 (wI rfl (by omega) (by omega))) rfl ?_
          refine s_y (v := .int .i64 ((((u64of (cs.getD i default) % (rl + 1)) : Nat) : Int))) (y_assign rfl) rfl ?_
          refine wpL_nil ?_
          refine thenS_n ?_
          refine wpS_seq ?_
          refine wpS_any [11] (by kernel_rfl) ?_
          refine anyS_take (i := 0) rfl (by kernel_rfl) (by kernel_rfl) (by kernel_rfl) (by kernel_rfl) (Yq.of (v := .agg #[.int .i64 k, .slice a1 n1 c1, .slice a2 n2 c2, .slice a3 n3 c3]) (y_loadN (vs := [.int .i64 k, .slice a1 n1 c1, .slice a2 n2 c2, .slice a3 n3 c3]) h3_14 Try.isAgg84 Try.sizeOf84 (ownN (.t (.t (.t (.t (.t .h))))) rfl)) rfl) (.p .h (.p .h (.p .h (.p .h (.p .h (.p .h .nil)))))) ?_
          refine anyS_take (i := 1) rfl (by kernel_rfl) (by kernel_rfl) (by kernel_rfl) (by kernel_rfl) (Yq.of (v := .agg #[.bool (cr.dead), .int .i64 (cr.key.toInt), .int .i64 (cr.value.toInt), .int .i64 (cr.seq.toInt)]) (y_loadN (vs := [.bool (cr.dead), .int .i64 (cr.key.toInt), .int .i64 (cr.value.toInt), .int .i64 (cr.seq.toInt)]) h10_14 Try.isAgg23 Try.sizeOf23 (ownN (.t (.t .h)) rfl)) rfl) (.p .h (.p .h (.p .h (.p .h (.p .h (.p .h .nil)))))) ?_
          refine anyS_take (i := 2) rfl (by kernel_rfl) (by kernel_rfl) (by kernel_rfl) (by kernel_rfl) (Yq.of (v := .slice ra rl rc) (y_move h11_14) rfl) (.p .h (.p .h (.p .h (.p .h (.p .h (.p .h .nil)))))) ?_
          refine anyS_take (i := 3) rfl (by kernel_rfl) (by kernel_rfl) (by kernel_rfl) (by kernel_rfl) (Yq.of (v := .int .i64 ((((u64of (cs.getD i default) % (rl + 1)) : Nat) : Int))) (y_move rfl) rfl) (.p .h (.p .h (.p .h (.p .h (.p .h (.p .h .nil)))))) ?_
          refine anyS_take (i := 4) rfl (by kernel_rfl) (by kernel_rfl) (by kernel_rfl) (by kernel_rfl) (Yq.of (v := .slice ra (u64of (cs.getD i default) % (rl + 1)) rc) (y_sliceH (h' := (u64of (cs.getD i default) % (rl + 1))) rfl rfl Try.underlying69 Try.sizeOf23 (by omega) (by omega) (by omega)) rfl) (.p .h (.p .h (.p .h (.p .h (.p .h (.p .h .nil)))))) ?_
          refine anyS_all (rs := [5, 9]) (by kernel_rfl) (by simp) ?_
          intro i hi16; simp only [List.mem_cons, List.not_mem_nil, or_false] at hi16; rcases hi16 with rfl | rfl
          · -- number 5 first
            refine opS_0 rfl rfl ?_
            refine e_call (f := 91) (args := #[.agg #[.int .i64 k, .slice a1 n1 c1, .slice a2 n2 c2, .slice a3 n3 c3], .agg #[.bool (cr.dead), .int .i64 (cr.key.toInt), .int .i64 (cr.value.toInt), .int .i64 (cr.seq.toInt)], .slice ra (u64of (cs.getD i default) % (rl + 1)) rc]) (X := Option Addr × Nat) (A := []) (M := [osl b1 d1 xs.length 4 23 (xs.flatMap recV), rdr ra ((l.drop p).flatMap recV), cel b_10 23 [.bool (cr.dead), .int .i64 (cr.key.toInt), .int .i64 (cr.value.toInt), .int .i64 (cr.seq.toInt)], cel b_9 23 [.bool ((stepC (chkB k l1 l2 l3) l2 l3 (Rec.mk true 0 0 0) l).dead), .int .i64 (((stepC (chkB k l1 l2 l3) l2 l3 (Rec.mk true 0 0 0) l).key).toInt), .int .i64 (((stepC (chkB k l1 l2 l3) l2 l3 (Rec.mk true 0 0 0) l).value).toInt), .int .i64 (((stepC (chkB k l1 l2 l3) l2 l3 (Rec.mk true 0 0 0) l).seq).toInt)], osl a_5 c_6 ((stepO (chkB k l1 l2 l3) l2 l3 (Rec.mk true 0 0 0) l).length) 4 23 ((stepO (chkB k l1 l2 l3) l2 l3 (Rec.mk true 0 0 0) l).flatMap recV), cel b_1 84 [.int .i64 k, .slice a1 n1 c1, .slice a2 n2 c2, .slice a3 n3 c3]]) (V := fun x => .tuple #[slV (stepO (chkB k l1 l2 l3) l2 l3 cr ((l.drop p).take (u64of (cs.getD i default) % (rl + 1)))) x, .agg #[.bool ((stepC (chkB k l1 l2 l3) l2 l3 cr ((l.drop p).take (u64of (cs.getD i default) % (rl + 1)))).dead), .int .i64 (((stepC (chkB k l1 l2 l3) l2 l3 cr ((l.drop p).take (u64of (cs.getD i default) % (rl + 1)))).key).toInt), .int .i64 (((stepC (chkB k l1 l2 l3) l2 l3 cr ((l.drop p).take (u64of (cs.getD i default) % (rl + 1)))).value).toInt), .int .i64 (((stepC (chkB k l1 l2 l3) l2 l3 cr ((l.drop p).take (u64of (cs.getD i default) % (rl + 1)))).seq).toInt)]]) (A' := fun x => [slR recV 4 23 (stepO (chkB k l1 l2 l3) l2 l3 cr ((l.drop p).take (u64of (cs.getD i default) % (rl + 1)))) x]) (C := fun _ => True) Try.call91 (ev3 rfl rfl rfl) (.p .h (.p .h (.p .h (.p .h (.p .h (.p .h .nil)))))) (fun w hs => cstep_c k a1 a2 a3 n1 c1 n2 c2 n3 c3 l1 l2 l3 cr ra (u64of (cs.getD i default) % (rl + 1)) rc ((l.drop p).take (u64of (cs.getD i default) % (rl + 1))) w hn1 ((oldR hr1) w hs) (by omega) hn2 ((oldR hr2) w hs) (by omega) hn3 ((oldR hr3) w hs) (by omega) (by omega) ((rdsT recV_len (u64of (cs.getD i default) % (rl + 1)) (rdrR (.t .h))) w hs) (by omega)) ?_
            rintro ⟨a_17, c_18⟩ -
            have hso20 : (stepO (chkB k l1 l2 l3) l2 l3 cr ((l.drop p).take (u64of (cs.getD i default) % (rl + 1)))).length = ((l.drop p).take (u64of (cs.getD i default) % (rl + 1))).length := stepO_len hok
            try simp only [List.length_cons, List.length_nil, Nat.zero_add] at hso20
            try have hxsl : (xs ++ (stepO (chkB k l1 l2 l3) l2 l3 cr ((l.drop p).take (u64of (cs.getD i default) % (rl + 1))))).length = xs.length + (stepO (chkB k l1 l2 l3) l2 l3 cr ((l.drop p).take (u64of (cs.getD i default) % (rl + 1)))).length := List.length_append
            refine ⟨.inr (.p (.t .h) (.p (.t .h) (.p (.t .h) (.p (.t .h) (.p (.t .h) (.p (.t .h) .nil)))))), ?_⟩
            refine anyS_take (i := 6) rfl (by kernel_rfl) (by kernel_rfl) (by kernel_rfl) (by kernel_rfl) (Yq.of (v := .tuple #[.slice a_17 ((stepO (chkB k l1 l2 l3) l2 l3 cr ((l.drop p).take (u64of (cs.getD i default) % (rl + 1)))).length) c_18, .agg #[.bool ((stepC (chkB k l1 l2 l3) l2 l3 cr ((l.drop p).take (u64of (cs.getD i default) % (rl + 1)))).dead), .int .i64 (((stepC (chkB k l1 l2 l3) l2 l3 cr ((l.drop p).take (u64of (cs.getD i default) % (rl + 1)))).key).toInt), .int .i64 (((stepC (chkB k l1 l2 l3) l2 l3 cr ((l.drop p).take (u64of (cs.getD i default) % (rl + 1)))).value).toInt), .int .i64 (((stepC (chkB k l1 l2 l3) l2 l3 cr ((l.drop p).take (u64of (cs.getD i default) % (rl + 1)))).seq).toInt)]]) (y_move rfl) rfl) (.p (.t .h) (.p (.t .h) (.p (.t .h) (.p (.t .h) (.p (.t .h) (.p (.t .h) .nil)))))) ?_
            refine anyS_take (i := 7) rfl (by kernel_rfl) (by kernel_rfl) (by kernel_rfl) (by kernel_rfl) (Yq.of (v := .slice a_17 ((stepO (chkB k l1 l2 l3) l2 l3 cr ((l.drop p).take (u64of (cs.getD i default) % (rl + 1)))).length) c_18) (y_extract (v := .slice a_17 ((stepO (chkB k l1 l2 l3) l2 l3 cr ((l.drop p).take (u64of (cs.getD i default) % (rl + 1)))).length) c_18) rfl rfl) rfl) (.p (.t .h) (.p (.t .h) (.p (.t .h) (.p (.t .h) (.p (.t .h) (.p (.t .h) .nil)))))) ?_
            refine anyS_take (i := 8) rfl (by kernel_rfl) (by kernel_rfl) (by kernel_rfl) (by kernel_rfl) (Yq.of (v := .agg #[.bool ((stepC (chkB k l1 l2 l3) l2 l3 cr ((l.drop p).take (u64of (cs.getD i default) % (rl + 1)))).dead), .int .i64 (((stepC (chkB k l1 l2 l3) l2 l3 cr ((l.drop p).take (u64of (cs.getD i default) % (rl + 1)))).key).toInt), .int .i64 (((stepC (chkB k l1 l2 l3) l2 l3 cr ((l.drop p).take (u64of (cs.getD i default) % (rl + 1)))).value).toInt), .int .i64 (((stepC (chkB k l1 l2 l3) l2 l3 cr ((l.drop p).take (u64of (cs.getD i default) % (rl + 1)))).seq).toInt)]) (y_extract (v := .agg #[.bool ((stepC (chkB k l1 l2 l3) l2 l3 cr ((l.drop p).take (u64of (cs.getD i default) % (rl + 1)))).dead), .int .i64 (((stepC (chkB k l1 l2 l3) l2 l3 cr ((l.drop p).take (u64of (cs.getD i default) % (rl + 1)))).key).toInt), .int .i64 (((stepC (chkB k l1 l2 l3) l2 l3 cr ((l.drop p).take (u64of (cs.getD i default) % (rl + 1)))).value).toInt), .int .i64 (((stepC (chkB k l1 l2 l3) l2 l3 cr ((l.drop p).take (u64of (cs.getD i default) % (rl + 1)))).seq).toInt)]) rfl rfl) rfl) (.p (.t .h) (.p (.t .h) (.p (.t .h) (.p (.t .h) (.p (.t .h) (.p (.t .h) .nil)))))) ?_
            refine anyS_all (rs := [9]) (by kernel_rfl) (by simp) ?_
            intro i hi; obtain rfl := List.mem_singleton.1 hi; clear hi
            refine opS_0 rfl rfl ?_
            refine e_alloc (l := [.bool false, .int .i64 0, .int .i64 0, .int .i64 0]) Try.zeroValue23 rfl ?_
            intro b_21
            refine ⟨.inr (.p (.t (.t .h)) (.p (.t (.t .h)) (.p (.t (.t .h)) (.p (.t (.t .h)) (.p (.t (.t .h)) (.p (.t (.t .h)) .nil)))))), ?_⟩
            refine anyS_take (i := 10) rfl (by kernel_rfl) (by kernel_rfl) (by kernel_rfl) (by kernel_rfl) (Yq.of (v := .slice a_17 ((stepO (chkB k l1 l2 l3) l2 l3 cr ((l.drop p).take (u64of (cs.getD i default) % (rl + 1)))).length) c_18) (y_assign rfl) rfl) (.p (.t (.t .h)) (.p (.t (.t .h)) (.p (.t (.t .h)) (.p (.t (.t .h)) (.p (.t (.t .h)) (.p (.t (.t .h)) .nil)))))) ?_
            refine anyS_all (rs := [11]) (by kernel_rfl) (by simp) ?_
            intro i hi; obtain rfl := List.mem_singleton.1 hi; clear hi
            refine opS_0 rfl rfl ?_
            refine e_store (vs := [.bool ((stepC (chkB k l1 l2 l3) l2 l3 cr ((l.drop p).take (u64of (cs.getD i default) % (rl + 1)))).dead), .int .i64 (((stepC (chkB k l1 l2 l3) l2 l3 cr ((l.drop p).take (u64of (cs.getD i default) % (rl + 1)))).key).toInt), .int .i64 (((stepC (chkB k l1 l2 l3) l2 l3 cr ((l.drop p).take (u64of (cs.getD i default) % (rl + 1)))).value).toInt), .int .i64 (((stepC (chkB k l1 l2 l3) l2 l3 cr ((l.drop p).take (u64of (cs.getD i default) % (rl + 1)))).seq).toInt)]) (l' := [.bool ((stepC (chkB k l1 l2 l3) l2 l3 cr ((l.drop p).take (u64of (cs.getD i default) % (rl + 1)))).dead), .int .i64 (((stepC (chkB k l1 l2 l3) l2 l3 cr ((l.drop p).take (u64of (cs.getD i default) % (rl + 1)))).key).toInt), .int .i64 (((stepC (chkB k l1 l2 l3) l2 l3 cr ((l.drop p).take (u64of (cs.getD i default) % (rl + 1)))).value).toInt), .int .i64 (((stepC (chkB k l1 l2 l3) l2 l3 cr ((l.drop p).take (u64of (cs.getD i default) % (rl + 1)))).seq).toInt)]) rfl rfl rfl rfl Try.sizeOf23 .h (Nat.le_of_ble_eq_true rfl) rfl ?_
            refine ⟨.inl (by simp), ?_⟩
            refine anyS_done (by kernel_rfl) ?_
            refine thenS_n ?_
            refine wpS_anyL [cel b_21 23 [.bool ((stepC (chkB k l1 l2 l3) l2 l3 cr ((l.drop p).take (u64of (cs.getD i default) % (rl + 1)))).dead), .int .i64 (((stepC (chkB k l1 l2 l3) l2 l3 cr ((l.drop p).take (u64of (cs.getD i default) % (rl + 1)))).key).toInt), .int .i64 (((stepC (chkB k l1 l2 l3) l2 l3 cr ((l.drop p).take (u64of (cs.getD i default) % (rl + 1)))).value).toInt), .int .i64 (((stepC (chkB k l1 l2 l3) l2 l3 cr ((l.drop p).take (u64of (cs.getD i default) % (rl + 1)))).seq).toInt)]] [] (by kernel_rfl) ?_
            refine anyS_take (i := 0) rfl (by kernel_rfl) (by kernel_rfl) (by kernel_rfl) (by kernel_rfl) (Yq.of (v := .slice b1 xs.length d1) (y_move h9_14) rfl) (.p .h .nil) ?_
            refine anyS_take (i := 1) rfl (by kernel_rfl) (by kernel_rfl) (by kernel_rfl) (by kernel_rfl) (Yq.of (v := .slice a_17 ((stepO (chkB k l1 l2 l3) l2 l3 cr ((l.drop p).take (u64of (cs.getD i default) % (rl + 1)))).length) c_18) (y_move rfl) rfl) (.p .h .nil) ?_
            refine anyS_take (i := 3) rfl (by kernel_rfl) (by kernel_rfl) (by kernel_rfl) (by kernel_rfl) (Yq.of (v := .agg #[.bool ((stepC (chkB k l1 l2 l3) l2 l3 cr ((l.drop p).take (u64of (cs.getD i default) % (rl + 1)))).dead), .int .i64 (((stepC (chkB k l1 l2 l3) l2 l3 cr ((l.drop p).take (u64of (cs.getD i default) % (rl + 1)))).key).toInt), .int .i64 (((stepC (chkB k l1 l2 l3) l2 l3 cr ((l.drop p).take (u64of (cs.getD i default) % (rl + 1)))).value).toInt), .int .i64 (((stepC (chkB k l1 l2 l3) l2 l3 cr ((l.drop p).take (u64of (cs.getD i default) % (rl + 1)))).seq).toInt)]) (y_loadN (vs := [.bool ((stepC (chkB k l1 l2 l3) l2 l3 cr ((l.drop p).take (u64of (cs.getD i default) % (rl + 1)))).dead), .int .i64 (((stepC (chkB k l1 l2 l3) l2 l3 cr ((l.drop p).take (u64of (cs.getD i default) % (rl + 1)))).key).toInt), .int .i64 (((stepC (chkB k l1 l2 l3) l2 l3 cr ((l.drop p).take (u64of (cs.getD i default) % (rl + 1)))).value).toInt), .int .i64 (((stepC (chkB k l1 l2 l3) l2 l3 cr ((l.drop p).take (u64of (cs.getD i default) % (rl + 1)))).seq).toInt)]) rfl Try.isAgg23 Try.sizeOf23 (ownN .h rfl)) rfl) (.p .h .nil) ?_
            refine anyS_take (i := 4) rfl (by kernel_rfl) (by kernel_rfl) (by kernel_rfl) (by kernel_rfl) (Yq.of (v := .slice ra rl rc) (y_move h11_14) rfl) (.p .h .nil) ?_
            refine anyS_take (i := 5) rfl (by kernel_rfl) (by kernel_rfl) (by kernel_rfl) (by kernel_rfl) (Yq.of (v := .int .i64 ((((u64of (cs.getD i default) % (rl + 1)) : Nat) : Int))) (y_move rfl) rfl) (.p .h .nil) ?_
            refine anyS_take (i := 6) rfl (by kernel_rfl) (by kernel_rfl) (by kernel_rfl) (by kernel_rfl) (Yq.of (v := .slice (subA ra rc (u64of (cs.getD i default) % (rl + 1)) 4) (rl - (u64of (cs.getD i default) % (rl + 1))) (rc - (u64of (cs.getD i default) % (rl + 1)))) (y_sliceL (l' := (u64of (cs.getD i default) % (rl + 1))) rfl rfl Try.underlying69 Try.sizeOf23 (by omega) (by omega) (by omega)) rfl) (.p .h .nil) ?_
            refine anyS_all (rs := [2]) (by kernel_rfl) (by simp) ?_
            intro i hi; obtain rfl := List.mem_singleton.1 hi; clear hi
            refine opS_0 rfl rfl ?_
            refine e_appendL (enc := recV) (xs := (xs : List Rec)) (ns := ((stepO (chkB k l1 l2 l3) l2 l3 cr ((l.drop p).take (u64of (cs.getD i default) % (rl + 1)))) : List Rec)) (zs := (xs ++ (stepO (chkB k l1 l2 l3) l2 l3 cr ((l.drop p).take (u64of (cs.getD i default) % (rl + 1)))))) (bytes := 32) recV_len recV_one Try.underlying69 (i := Try.t23) rfl rfl rfl rfl rfl (by decide) rfl rfl (by first | rfl | omega) (by first | rfl | omega) (.t (.t .h)) (oslR (.t .h)) (by first | rfl | simp) (by (try simp only [List.length_append, List.length_cons, List.length_nil] at *); omega) (by (try simp only [List.length_append, List.length_cons, List.length_nil] at *); omega) ?_
            intro a_22 c_23
            refine ⟨.inr (.p (.t .h) .nil), ?_⟩
            refine anyS_take (i := 7) rfl (by kernel_rfl) (by kernel_rfl) (by kernel_rfl) (by kernel_rfl) (Yq.of (v := .slice a_22 ((xs ++ (stepO (chkB k l1 l2 l3) l2 l3 cr ((l.drop p).take (u64of (cs.getD i default) % (rl + 1))))).length) c_23) (y_assign rfl) rfl) (.p (.t .h) .nil) ?_
            refine anyS_all (rs := [8]) (by kernel_rfl) (by simp) ?_
            intro i hi; obtain rfl := List.mem_singleton.1 hi; clear hi
            refine opS_0 rfl rfl ?_
            refine e_store (vs := [.bool ((stepC (chkB k l1 l2 l3) l2 l3 cr ((l.drop p).take (u64of (cs.getD i default) % (rl + 1)))).dead), .int .i64 (((stepC (chkB k l1 l2 l3) l2 l3 cr ((l.drop p).take (u64of (cs.getD i default) % (rl + 1)))).key).toInt), .int .i64 (((stepC (chkB k l1 l2 l3) l2 l3 cr ((l.drop p).take (u64of (cs.getD i default) % (rl + 1)))).value).toInt), .int .i64 (((stepC (chkB k l1 l2 l3) l2 l3 cr ((l.drop p).take (u64of (cs.getD i default) % (rl + 1)))).seq).toInt)]) (l' := [.bool ((stepC (chkB k l1 l2 l3) l2 l3 cr ((l.drop p).take (u64of (cs.getD i default) % (rl + 1)))).dead), .int .i64 (((stepC (chkB k l1 l2 l3) l2 l3 cr ((l.drop p).take (u64of (cs.getD i default) % (rl + 1)))).key).toInt), .int .i64 (((stepC (chkB k l1 l2 l3) l2 l3 cr ((l.drop p).take (u64of (cs.getD i default) % (rl + 1)))).value).toInt), .int .i64 (((stepC (chkB k l1 l2 l3) l2 l3 cr ((l.drop p).take (u64of (cs.getD i default) % (rl + 1)))).seq).toInt)]) h10_14 rfl rfl rfl Try.sizeOf23 (.t (.t (.t (.t .h)))) (Nat.le_of_ble_eq_true rfl) rfl ?_
            refine ⟨.inr (.p (.t (.t .h)) .nil), ?_⟩
            refine anyS_take (i := 9) rfl (by kernel_rfl) (by kernel_rfl) (by kernel_rfl) (by kernel_rfl) (Yq.of (v := .slice (subA ra rc (u64of (cs.getD i default) % (rl + 1)) 4) (rl - (u64of (cs.getD i default) % (rl + 1))) (rc - (u64of (cs.getD i default) % (rl + 1)))) (y_assign rfl) rfl) (.p (.t (.t .h)) .nil) ?_
            refine anyS_done (by kernel_rfl) ?_
            refine blockS_n ?_
            refine thenS_n ?_
            refine wpS_region ?_
            refine s_y (v := .int .i64 (((i : Nat) : Int))) (y_move h12_14) rfl ?_
            refine s_y (v := .int .i64 ((((i + 1) : Nat) : Int))) (y_add (a := ((i : Nat) : Int)) (b := 1) (c := (((i + 1) : Nat) : Int)) rfl rfl (wI (by omega) (by omega) (by omega))) rfl ?_
            refine s_y (v := .int .i64 ((((i + 1) : Nat) : Int))) (y_assign rfl) rfl ?_
            refine wpL_nil ?_
            refine thenS_n ?_
            exact ⟨_, by omega, ⟨(i + 1), (p + (u64of (cs.getD i default) % (rl + 1))), (xs ++ (stepO (chkB k l1 l2 l3) l2 l3 cr ((l.drop p).take (u64of (cs.getD i default) % (rl + 1))))), (run15 (chkB k l1 l2 l3) l2 l3 ([], cq) ((l.drop p).take (u64of (cs.getD i default) % (rl + 1)))).2, (stepC (chkB k l1 l2 l3) l2 l3 cr ((l.drop p).take (u64of (cs.getD i default) % (rl + 1)))), subA ra rc (u64of (cs.getD i default) % (rl + 1)) 4, (rl - (u64of (cs.getD i default) % (rl + 1))), (rc - (u64of (cs.getD i default) % (rl + 1))), a_22, c_23, rfl, by omega, by omega, (by rw [List.length_append, stepO_len hok]; omega), (cut_step hok (by assumption) (by assumption)).1, (cut_step hok (by assumption) (by assumption)).2, (by omega), (by omega), rfl, h2_14, h3_14, h7_14, h8_14, rfl, h10_14, rfl, rfl, .p (.t .h) (.w (.t (.t (.t .h))) (rdr_sub (by rw [fl_len recV_len, List.length_drop]; omega) (by rw [fl_drop recV_len, List.drop_drop]) (by decide)) (.p .h (.p (.t (.t .h)) (.p (.t (.t .h)) (.p (.t (.t .h)) .nil)))))⟩⟩
          · -- number 9 first
            refine opS_0 rfl rfl ?_
            refine e_alloc (l := [.bool false, .int .i64 0, .int .i64 0, .int .i64 0]) Try.zeroValue23 rfl ?_
            intro b_24
            refine ⟨.inr (.p (.t .h) (.p (.t .h) (.p (.t .h) (.p (.t .h) (.p (.t .h) (.p (.t .h) .nil)))))), ?_⟩
            refine anyS_all (rs := [5]) (by kernel_rfl) (by simp) ?_
            intro i hi; obtain rfl := List.mem_singleton.1 hi; clear hi
            refine opS_0 rfl rfl ?_
            refine e_call (f := 91) (args := #[.agg #[.int .i64 k, .slice a1 n1 c1, .slice a2 n2 c2, .slice a3 n3 c3], .agg #[.bool (cr.dead), .int .i64 (cr.key.toInt), .int .i64 (cr.value.toInt), .int .i64 (cr.seq.toInt)], .slice ra (u64of (cs.getD i default) % (rl + 1)) rc]) (X := Option Addr × Nat) (A := []) (M := [cel b_24 23 [.bool false, .int .i64 0, .int .i64 0, .int .i64 0], osl b1 d1 xs.length 4 23 (xs.flatMap recV), rdr ra ((l.drop p).flatMap recV), cel b_10 23 [.bool (cr.dead), .int .i64 (cr.key.toInt), .int .i64 (cr.value.toInt), .int .i64 (cr.seq.toInt)], cel b_9 23 [.bool ((stepC (chkB k l1 l2 l3) l2 l3 (Rec.mk true 0 0 0) l).dead), .int .i64 (((stepC (chkB k l1 l2 l3) l2 l3 (Rec.mk true 0 0 0) l).key).toInt), .int .i64 (((stepC (chkB k l1 l2 l3) l2 l3 (Rec.mk true 0 0 0) l).value).toInt), .int .i64 (((stepC (chkB k l1 l2 l3) l2 l3 (Rec.mk true 0 0 0) l).seq).toInt)], osl a_5 c_6 ((stepO (chkB k l1 l2 l3) l2 l3 (Rec.mk true 0 0 0) l).length) 4 23 ((stepO (chkB k l1 l2 l3) l2 l3 (Rec.mk true 0 0 0) l).flatMap recV), cel b_1 84 [.int .i64 k, .slice a1 n1 c1, .slice a2 n2 c2, .slice a3 n3 c3]]) (V := fun x => .tuple #[slV (stepO (chkB k l1 l2 l3) l2 l3 cr ((l.drop p).take (u64of (cs.getD i default) % (rl + 1)))) x, .agg #[.bool ((stepC (chkB k l1 l2 l3) l2 l3 cr ((l.drop p).take (u64of (cs.getD i default) % (rl + 1)))).dead), .int .i64 (((stepC (chkB k l1 l2 l3) l2 l3 cr ((l.drop p).take (u64of (cs.getD i default) % (rl + 1)))).key).toInt), .int .i64 (((stepC (chkB k l1 l2 l3) l2 l3 cr ((l.drop p).take (u64of (cs.getD i default) % (rl + 1)))).value).toInt), .int .i64 (((stepC (chkB k l1 l2 l3) l2 l3 cr ((l.drop p).take (u64of (cs.getD i default) % (rl + 1)))).seq).toInt)]]) (A' := fun x => [slR recV 4 23 (stepO (chkB k l1 l2 l3) l2 l3 cr ((l.drop p).take (u64of (cs.getD i default) % (rl + 1)))) x]) (C := fun _ => True) Try.call91 (ev3 rfl rfl rfl) (.p .h (.p .h (.p .h (.p .h (.p .h (.p .h (.p .h .nil))))))) (fun w hs => cstep_c k a1 a2 a3 n1 c1 n2 c2 n3 c3 l1 l2 l3 cr ra (u64of (cs.getD i default) % (rl + 1)) rc ((l.drop p).take (u64of (cs.getD i default) % (rl + 1))) w hn1 ((oldR hr1) w hs) (by omega) hn2 ((oldR hr2) w hs) (by omega) hn3 ((oldR hr3) w hs) (by omega) (by omega) ((rdsT recV_len (u64of (cs.getD i default) % (rl + 1)) (rdrR (.t (.t .h)))) w hs) (by omega)) ?_
            rintro ⟨a_25, c_26⟩ -
            have hso28 : (stepO (chkB k l1 l2 l3) l2 l3 cr ((l.drop p).take (u64of (cs.getD i default) % (rl + 1)))).length = ((l.drop p).take (u64of (cs.getD i default) % (rl + 1))).length := stepO_len hok
            try simp only [List.length_cons, List.length_nil, Nat.zero_add] at hso28
            try have hxsl : (xs ++ (stepO (chkB k l1 l2 l3) l2 l3 cr ((l.drop p).take (u64of (cs.getD i default) % (rl + 1))))).length = xs.length + (stepO (chkB k l1 l2 l3) l2 l3 cr ((l.drop p).take (u64of (cs.getD i default) % (rl + 1)))).length := List.length_append
            refine ⟨.inr (.p (.t (.t .h)) (.p (.t (.t .h)) (.p (.t (.t .h)) (.p (.t (.t .h)) (.p (.t (.t .h)) (.p (.t (.t .h)) .nil)))))), ?_⟩
            refine anyS_take (i := 6) rfl (by kernel_rfl) (by kernel_rfl) (by kernel_rfl) (by kernel_rfl) (Yq.of (v := .tuple #[.slice a_25 ((stepO (chkB k l1 l2 l3) l2 l3 cr ((l.drop p).take (u64of (cs.getD i default) % (rl + 1)))).length) c_26, .agg #[.bool ((stepC (chkB k l1 l2 l3) l2 l3 cr ((l.drop p).take (u64of (cs.getD i default) % (rl + 1)))).dead), .int .i64 (((stepC (chkB k l1 l2 l3) l2 l3 cr ((l.drop p).take (u64of (cs.getD i default) % (rl + 1)))).key).toInt), .int .i64 (((stepC (chkB k l1 l2 l3) l2 l3 cr ((l.drop p).take (u64of (cs.getD i default) % (rl + 1)))).value).toInt), .int .i64 (((stepC (chkB k l1 l2 l3) l2 l3 cr ((l.drop p).take (u64of (cs.getD i default) % (rl + 1)))).seq).toInt)]]) (y_move rfl) rfl) (.p (.t (.t .h)) (.p (.t (.t .h)) (.p (.t (.t .h)) (.p (.t (.t .h)) (.p (.t (.t .h)) (.p (.t (.t .h)) .nil)))))) ?_
            refine anyS_take (i := 7) rfl (by kernel_rfl) (by kernel_rfl) (by kernel_rfl) (by kernel_rfl) (Yq.of (v := .slice a_25 ((stepO (chkB k l1 l2 l3) l2 l3 cr ((l.drop p).take (u64of (cs.getD i default) % (rl + 1)))).length) c_26) (y_extract (v := .slice a_25 ((stepO (chkB k l1 l2 l3) l2 l3 cr ((l.drop p).take (u64of (cs.getD i default) % (rl + 1)))).length) c_26) rfl rfl) rfl) (.p (.t (.t .h)) (.p (.t (.t .h)) (.p (.t (.t .h)) (.p (.t (.t .h)) (.p (.t (.t .h)) (.p (.t (.t .h)) .nil)))))) ?_
            refine anyS_take (i := 8) rfl (by kernel_rfl) (by kernel_rfl) (by kernel_rfl) (by kernel_rfl) (Yq.of (v := .agg #[.bool ((stepC (chkB k l1 l2 l3) l2 l3 cr ((l.drop p).take (u64of (cs.getD i default) % (rl + 1)))).dead), .int .i64 (((stepC (chkB k l1 l2 l3) l2 l3 cr ((l.drop p).take (u64of (cs.getD i default) % (rl + 1)))).key).toInt), .int .i64 (((stepC (chkB k l1 l2 l3) l2 l3 cr ((l.drop p).take (u64of (cs.getD i default) % (rl + 1)))).value).toInt), .int .i64 (((stepC (chkB k l1 l2 l3) l2 l3 cr ((l.drop p).take (u64of (cs.getD i default) % (rl + 1)))).seq).toInt)]) (y_extract (v := .agg #[.bool ((stepC (chkB k l1 l2 l3) l2 l3 cr ((l.drop p).take (u64of (cs.getD i default) % (rl + 1)))).dead), .int .i64 (((stepC (chkB k l1 l2 l3) l2 l3 cr ((l.drop p).take (u64of (cs.getD i default) % (rl + 1)))).key).toInt), .int .i64 (((stepC (chkB k l1 l2 l3) l2 l3 cr ((l.drop p).take (u64of (cs.getD i default) % (rl + 1)))).value).toInt), .int .i64 (((stepC (chkB k l1 l2 l3) l2 l3 cr ((l.drop p).take (u64of (cs.getD i default) % (rl + 1)))).seq).toInt)]) rfl rfl) rfl) (.p (.t (.t .h)) (.p (.t (.t .h)) (.p (.t (.t .h)) (.p (.t (.t .h)) (.p (.t (.t .h)) (.p (.t (.t .h)) .nil)))))) ?_
            refine anyS_take (i := 10) rfl (by kernel_rfl) (by kernel_rfl) (by kernel_rfl) (by kernel_rfl) (Yq.of (v := .slice a_25 ((stepO (chkB k l1 l2 l3) l2 l3 cr ((l.drop p).take (u64of (cs.getD i default) % (rl + 1)))).length) c_26) (y_assign rfl) rfl) (.p (.t (.t .h)) (.p (.t (.t .h)) (.p (.t (.t .h)) (.p (.t (.t .h)) (.p (.t (.t .h)) (.p (.t (.t .h)) .nil)))))) ?_
            refine anyS_all (rs := [11]) (by kernel_rfl) (by simp) ?_
            intro i hi; obtain rfl := List.mem_singleton.1 hi; clear hi
            refine opS_0 rfl rfl ?_
            refine e_store (vs := [.bool ((stepC (chkB k l1 l2 l3) l2 l3 cr ((l.drop p).take (u64of (cs.getD i default) % (rl + 1)))).dead), .int .i64 (((stepC (chkB k l1 l2 l3) l2 l3 cr ((l.drop p).take (u64of (cs.getD i default) % (rl + 1)))).key).toInt), .int .i64 (((stepC (chkB k l1 l2 l3) l2 l3 cr ((l.drop p).take (u64of (cs.getD i default) % (rl + 1)))).value).toInt), .int .i64 (((stepC (chkB k l1 l2 l3) l2 l3 cr ((l.drop p).take (u64of (cs.getD i default) % (rl + 1)))).seq).toInt)]) (l' := [.bool ((stepC (chkB k l1 l2 l3) l2 l3 cr ((l.drop p).take (u64of (cs.getD i default) % (rl + 1)))).dead), .int .i64 (((stepC (chkB k l1 l2 l3) l2 l3 cr ((l.drop p).take (u64of (cs.getD i default) % (rl + 1)))).key).toInt), .int .i64 (((stepC (chkB k l1 l2 l3) l2 l3 cr ((l.drop p).take (u64of (cs.getD i default) % (rl + 1)))).value).toInt), .int .i64 (((stepC (chkB k l1 l2 l3) l2 l3 cr ((l.drop p).take (u64of (cs.getD i default) % (rl + 1)))).seq).toInt)]) rfl rfl rfl rfl Try.sizeOf23 (.t .h) (Nat.le_of_ble_eq_true rfl) rfl ?_
            refine ⟨.inl (by simp), ?_⟩
            refine anyS_done (by kernel_rfl) ?_
            refine thenS_n ?_
            refine wpS_anyL [cel b_24 23 [.bool ((stepC (chkB k l1 l2 l3) l2 l3 cr ((l.drop p).take (u64of (cs.getD i default) % (rl + 1)))).dead), .int .i64 (((stepC (chkB k l1 l2 l3) l2 l3 cr ((l.drop p).take (u64of (cs.getD i default) % (rl + 1)))).key).toInt), .int .i64 (((stepC (chkB k l1 l2 l3) l2 l3 cr ((l.drop p).take (u64of (cs.getD i default) % (rl + 1)))).value).toInt), .int .i64 (((stepC (chkB k l1 l2 l3) l2 l3 cr ((l.drop p).take (u64of (cs.getD i default) % (rl + 1)))).seq).toInt)]] [] (by kernel_rfl) ?_
            refine anyS_take (i := 0) rfl (by kernel_rfl) (by kernel_rfl) (by kernel_rfl) (by kernel_rfl) (Yq.of (v := .slice b1 xs.length d1) (y_move h9_14) rfl) (.p .h .nil) ?_
            refine anyS_take (i := 1) rfl (by kernel_rfl) (by kernel_rfl) (by kernel_rfl) (by kernel_rfl) (Yq.of (v := .slice a_25 ((stepO (chkB k l1 l2 l3) l2 l3 cr ((l.drop p).take (u64of (cs.getD i default) % (rl + 1)))).length) c_26) (y_move rfl) rfl) (.p .h .nil) ?_
            refine anyS_take (i := 3) rfl (by kernel_rfl) (by kernel_rfl) (by kernel_rfl) (by kernel_rfl) (Yq.of (v := .agg #[.bool ((stepC (chkB k l1 l2 l3) l2 l3 cr ((l.drop p).take (u64of (cs.getD i default) % (rl + 1)))).dead), .int .i64 (((stepC (chkB k l1 l2 l3) l2 l3 cr ((l.drop p).take (u64of (cs.getD i default) % (rl + 1)))).key).toInt), .int .i64 (((stepC (chkB k l1 l2 l3) l2 l3 cr ((l.drop p).take (u64of (cs.getD i default) % (rl + 1)))).value).toInt), .int .i64 (((stepC (chkB k l1 l2 l3) l2 l3 cr ((l.drop p).take (u64of (cs.getD i default) % (rl + 1)))).seq).toInt)]) (y_loadN (vs := [.bool ((stepC (chkB k l1 l2 l3) l2 l3 cr ((l.drop p).take (u64of (cs.getD i default) % (rl + 1)))).dead), .int .i64 (((stepC (chkB k l1 l2 l3) l2 l3 cr ((l.drop p).take (u64of (cs.getD i default) % (rl + 1)))).key).toInt), .int .i64 (((stepC (chkB k l1 l2 l3) l2 l3 cr ((l.drop p).take (u64of (cs.getD i default) % (rl + 1)))).value).toInt), .int .i64 (((stepC (chkB k l1 l2 l3) l2 l3 cr ((l.drop p).take (u64of (cs.getD i default) % (rl + 1)))).seq).toInt)]) rfl Try.isAgg23 Try.sizeOf23 (ownN .h rfl)) rfl) (.p .h .nil) ?_
            refine anyS_take (i := 4) rfl (by kernel_rfl) (by kernel_rfl) (by kernel_rfl) (by kernel_rfl) (Yq.of (v := .slice ra rl rc) (y_move h11_14) rfl) (.p .h .nil) ?_
            refine anyS_take (i := 5) rfl (by kernel_rfl) (by kernel_rfl) (by kernel_rfl) (by kernel_rfl) (Yq.of (v := .int .i64 ((((u64of (cs.getD i default) % (rl + 1)) : Nat) : Int))) (y_move rfl) rfl) (.p .h .nil) ?_
            refine anyS_take (i := 6) rfl (by kernel_rfl) (by kernel_rfl) (by kernel_rfl) (by kernel_rfl) (Yq.of (v := .slice (subA ra rc (u64of (cs.getD i default) % (rl + 1)) 4) (rl - (u64of (cs.getD i default) % (rl + 1))) (rc - (u64of (cs.getD i default) % (rl + 1)))) (y_sliceL (l' := (u64of (cs.getD i default) % (rl + 1))) rfl rfl Try.underlying69 Try.sizeOf23 (by omega) (by omega) (by omega)) rfl) (.p .h .nil) ?_
            refine anyS_all (rs := [2]) (by kernel_rfl) (by simp) ?_
            intro i hi; obtain rfl := List.mem_singleton.1 hi; clear hi
            refine opS_0 rfl rfl ?_
            refine e_appendL (enc := recV) (xs := (xs : List Rec)) (ns := ((stepO (chkB k l1 l2 l3) l2 l3 cr ((l.drop p).take (u64of (cs.getD i default) % (rl + 1)))) : List Rec)) (zs := (xs ++ (stepO (chkB k l1 l2 l3) l2 l3 cr ((l.drop p).take (u64of (cs.getD i default) % (rl + 1)))))) (bytes := 32) recV_len recV_one Try.underlying69 (i := Try.t23) rfl rfl rfl rfl rfl (by decide) rfl rfl (by first | rfl | omega) (by first | rfl | omega) (.t (.t .h)) (oslR (.t .h)) (by first | rfl | simp) (by (try simp only [List.length_append, List.length_cons, List.length_nil] at *); omega) (by (try simp only [List.length_append, List.length_cons, List.length_nil] at *); omega) ?_
            intro a_29 c_30
            refine ⟨.inr (.p (.t .h) .nil), ?_⟩
            refine anyS_take (i := 7) rfl (by kernel_rfl) (by kernel_rfl) (by kernel_rfl) (by kernel_rfl) (Yq.of (v := .slice a_29 ((xs ++ (stepO (chkB k l1 l2 l3) l2 l3 cr ((l.drop p).take (u64of (cs.getD i default) % (rl + 1))))).length) c_30) (y_assign rfl) rfl) (.p (.t .h) .nil) ?_
            refine anyS_all (rs := [8]) (by kernel_rfl) (by simp) ?_
            intro i hi; obtain rfl := List.mem_singleton.1 hi; clear hi
            refine opS_0 rfl rfl ?_
            refine e_store (vs := [.bool ((stepC (chkB k l1 l2 l3) l2 l3 cr ((l.drop p).take (u64of (cs.getD i default) % (rl + 1)))).dead), .int .i64 (((stepC (chkB k l1 l2 l3) l2 l3 cr ((l.drop p).take (u64of (cs.getD i default) % (rl + 1)))).key).toInt), .int .i64 (((stepC (chkB k l1 l2 l3) l2 l3 cr ((l.drop p).take (u64of (cs.getD i default) % (rl + 1)))).value).toInt), .int .i64 (((stepC (chkB k l1 l2 l3) l2 l3 cr ((l.drop p).take (u64of (cs.getD i default) % (rl + 1)))).seq).toInt)]) (l' := [.bool ((stepC (chkB k l1 l2 l3) l2 l3 cr ((l.drop p).take (u64of (cs.getD i default) % (rl + 1)))).dead), .int .i64 (((stepC (chkB k l1 l2 l3) l2 l3 cr ((l.drop p).take (u64of (cs.getD i default) % (rl + 1)))).key).toInt), .int .i64 (((stepC (chkB k l1 l2 l3) l2 l3 cr ((l.drop p).take (u64of (cs.getD i default) % (rl + 1)))).value).toInt), .int .i64 (((stepC (chkB k l1 l2 l3) l2 l3 cr ((l.drop p).take (u64of (cs.getD i default) % (rl + 1)))).seq).toInt)]) h10_14 rfl rfl rfl Try.sizeOf23 (.t (.t (.t (.t .h)))) (Nat.le_of_ble_eq_true rfl) rfl ?_
            refine ⟨.inr (.p (.t (.t .h)) .nil), ?_⟩
            refine anyS_take (i := 9) rfl (by kernel_rfl) (by kernel_rfl) (by kernel_rfl) (by kernel_rfl) (Yq.of (v := .slice (subA ra rc (u64of (cs.getD i default) % (rl + 1)) 4) (rl - (u64of (cs.getD i default) % (rl + 1))) (rc - (u64of (cs.getD i default) % (rl + 1)))) (y_assign rfl) rfl) (.p (.t (.t .h)) .nil) ?_
            refine anyS_done (by kernel_rfl) ?_
            refine blockS_n ?_
            refine thenS_n ?_
            refine wpS_region ?_
            refine s_y (v := .int .i64 (((i : Nat) : Int))) (y_move h12_14) rfl ?_
            refine s_y (v := .int .i64 ((((i + 1) : Nat) : Int))) (y_add (a := ((i : Nat) : Int)) (b := 1) (c := (((i + 1) : Nat) : Int)) rfl rfl (wI (by omega) (by omega) (by omega))) rfl ?_
            refine s_y (v := .int .i64 ((((i + 1) : Nat) : Int))) (y_assign rfl) rfl ?_
            refine wpL_nil ?_
            refine thenS_n ?_
            exact ⟨_, by omega, ⟨(i + 1), (p + (u64of (cs.getD i default) % (rl + 1))), (xs ++ (stepO (chkB k l1 l2 l3) l2 l3 cr ((l.drop p).take (u64of (cs.getD i default) % (rl + 1))))), (run15 (chkB k l1 l2 l3) l2 l3 ([], cq) ((l.drop p).take (u64of (cs.getD i default) % (rl + 1)))).2, (stepC (chkB k l1 l2 l3) l2 l3 cr ((l.drop p).take (u64of (cs.getD i default) % (rl + 1)))), subA ra rc (u64of (cs.getD i default) % (rl + 1)) 4, (rl - (u64of (cs.getD i default) % (rl + 1))), (rc - (u64of (cs.getD i default) % (rl + 1))), a_29, c_30, rfl, by omega, by omega, (by rw [List.length_append, stepO_len hok]; omega), (cut_step hok (by assumption) (by assumption)).1, (cut_step hok (by assumption) (by assumption)).2, (by omega), (by omega), rfl, h2_14, h3_14, h7_14, h8_14, rfl, h10_14, rfl, rfl, .p (.t .h) (.w (.t (.t (.t .h))) (rdr_sub (by rw [fl_len recV_len, List.length_drop]; omega) (by rw [fl_drop recV_len, List.drop_drop]) (by decide)) (.p .h (.p (.t (.t .h)) (.p (.t (.t .h)) (.p (.t (.t .h)) .nil)))))⟩⟩
        · -- decide (i < nd) false
          have p15 := of_decide_eq_false b15
          refine wpS_exit ?_
          refine thenS_x ?_
          refine thenS_x ?_
          refine blockS_h ?_
          refine thenS_n ?_
          refine wpS_seq ?_
          refine wpS_region ?_
          refine s_y (v := .agg #[.int .i64 k, .slice a1 n1 c1, .slice a2 n2 c2, .slice a3 n3 c3]) (y_loadN (vs := [.int .i64 k, .slice a1 n1 c1, .slice a2 n2 c2, .slice a3 n3 c3]) h3_14 Try.isAgg84 Try.sizeOf84 (ownN (.t (.t (.t (.t (.t .h))))) rfl)) rfl ?_
          refine s_y (v := .agg #[.bool (cr.dead), .int .i64 (cr.key.toInt), .int .i64 (cr.value.toInt), .int .i64 (cr.seq.toInt)]) (y_loadN (vs := [.bool (cr.dead), .int .i64 (cr.key.toInt), .int .i64 (cr.value.toInt), .int .i64 (cr.seq.toInt)]) h10_14 Try.isAgg23 Try.sizeOf23 (ownN (.t (.t .h)) rfl)) rfl ?_
          refine s_y (v := .slice ra rl rc) (y_move h11_14) rfl ?_
          refine s_e rfl ?_
          refine e_call (f := 91) (args := #[.agg #[.int .i64 k, .slice a1 n1 c1, .slice a2 n2 c2, .slice a3 n3 c3], .agg #[.bool (cr.dead), .int .i64 (cr.key.toInt), .int .i64 (cr.value.toInt), .int .i64 (cr.seq.toInt)], .slice ra rl rc]) (X := Option Addr × Nat) (A := []) (M := [osl b1 d1 xs.length 4 23 (xs.flatMap recV), rdr ra ((l.drop p).flatMap recV), cel b_10 23 [.bool (cr.dead), .int .i64 (cr.key.toInt), .int .i64 (cr.value.toInt), .int .i64 (cr.seq.toInt)], cel b_9 23 [.bool ((stepC (chkB k l1 l2 l3) l2 l3 (Rec.mk true 0 0 0) l).dead), .int .i64 (((stepC (chkB k l1 l2 l3) l2 l3 (Rec.mk true 0 0 0) l).key).toInt), .int .i64 (((stepC (chkB k l1 l2 l3) l2 l3 (Rec.mk true 0 0 0) l).value).toInt), .int .i64 (((stepC (chkB k l1 l2 l3) l2 l3 (Rec.mk true 0 0 0) l).seq).toInt)], osl a_5 c_6 ((stepO (chkB k l1 l2 l3) l2 l3 (Rec.mk true 0 0 0) l).length) 4 23 ((stepO (chkB k l1 l2 l3) l2 l3 (Rec.mk true 0 0 0) l).flatMap recV), cel b_1 84 [.int .i64 k, .slice a1 n1 c1, .slice a2 n2 c2, .slice a3 n3 c3]]) (V := fun x => .tuple #[slV (stepO (chkB k l1 l2 l3) l2 l3 cr (l.drop p)) x, .agg #[.bool ((stepC (chkB k l1 l2 l3) l2 l3 cr (l.drop p)).dead), .int .i64 (((stepC (chkB k l1 l2 l3) l2 l3 cr (l.drop p)).key).toInt), .int .i64 (((stepC (chkB k l1 l2 l3) l2 l3 cr (l.drop p)).value).toInt), .int .i64 (((stepC (chkB k l1 l2 l3) l2 l3 cr (l.drop p)).seq).toInt)]]) (A' := fun x => [slR recV 4 23 (stepO (chkB k l1 l2 l3) l2 l3 cr (l.drop p)) x]) (C := fun _ => True) Try.call91 (ev3 rfl rfl rfl) (.p .h (.p .h (.p .h (.p .h (.p .h (.p .h .nil)))))) (fun w hs => cstep_c k a1 a2 a3 n1 c1 n2 c2 n3 c3 l1 l2 l3 cr ra rl rc (l.drop p) w hn1 ((oldR hr1) w hs) (by omega) hn2 ((oldR hr2) w hs) (by omega) hn3 ((oldR hr3) w hs) (by omega) (by omega) ((rdrR (.t .h)) w hs) (by omega)) ?_
          rintro ⟨a_31, c_32⟩ -
          have hso34 : (stepO (chkB k l1 l2 l3) l2 l3 cr (l.drop p)).length = (l.drop p).length := stepO_len hok
          try simp only [List.length_cons, List.length_nil, Nat.zero_add] at hso34
          try have hxsl : (xs ++ (stepO (chkB k l1 l2 l3) l2 l3 cr (l.drop p))).length = xs.length + (stepO (chkB k l1 l2 l3) l2 l3 cr (l.drop p)).length := List.length_append
          refine s_y (v := .tuple #[.slice a_31 ((stepO (chkB k l1 l2 l3) l2 l3 cr (l.drop p)).length) c_32, .agg #[.bool ((stepC (chkB k l1 l2 l3) l2 l3 cr (l.drop p)).dead), .int .i64 (((stepC (chkB k l1 l2 l3) l2 l3 cr (l.drop p)).key).toInt), .int .i64 (((stepC (chkB k l1 l2 l3) l2 l3 cr (l.drop p)).value).toInt), .int .i64 (((stepC (chkB k l1 l2 l3) l2 l3 cr (l.drop p)).seq).toInt)]]) (y_move rfl) rfl ?_
          refine s_y (v := .slice a_31 ((stepO (chkB k l1 l2 l3) l2 l3 cr (l.drop p)).length) c_32) (y_extract (v := .slice a_31 ((stepO (chkB k l1 l2 l3) l2 l3 cr (l.drop p)).length) c_32) rfl rfl) rfl ?_
          refine s_y (v := .agg #[.bool ((stepC (chkB k l1 l2 l3) l2 l3 cr (l.drop p)).dead), .int .i64 (((stepC (chkB k l1 l2 l3) l2 l3 cr (l.drop p)).key).toInt), .int .i64 (((stepC (chkB k l1 l2 l3) l2 l3 cr (l.drop p)).value).toInt), .int .i64 (((stepC (chkB k l1 l2 l3) l2 l3 cr (l.drop p)).seq).toInt)]) (y_extract (v := .agg #[.bool ((stepC (chkB k l1 l2 l3) l2 l3 cr (l.drop p)).dead), .int .i64 (((stepC (chkB k l1 l2 l3) l2 l3 cr (l.drop p)).key).toInt), .int .i64 (((stepC (chkB k l1 l2 l3) l2 l3 cr (l.drop p)).value).toInt), .int .i64 (((stepC (chkB k l1 l2 l3) l2 l3 cr (l.drop p)).seq).toInt)]) rfl rfl) rfl ?_
          refine s_e rfl ?_
          refine e_alloc (l := [.bool false, .int .i64 0, .int .i64 0, .int .i64 0]) Try.zeroValue23 rfl ?_
          intro b_35
          refine s_y (v := .slice a_31 ((stepO (chkB k l1 l2 l3) l2 l3 cr (l.drop p)).length) c_32) (y_assign rfl) rfl ?_
          refine s_e0 ?_
          refine e_store (vs := [.bool ((stepC (chkB k l1 l2 l3) l2 l3 cr (l.drop p)).dead), .int .i64 (((stepC (chkB k l1 l2 l3) l2 l3 cr (l.drop p)).key).toInt), .int .i64 (((stepC (chkB k l1 l2 l3) l2 l3 cr (l.drop p)).value).toInt), .int .i64 (((stepC (chkB k l1 l2 l3) l2 l3 cr (l.drop p)).seq).toInt)]) (l' := [.bool ((stepC (chkB k l1 l2 l3) l2 l3 cr (l.drop p)).dead), .int .i64 (((stepC (chkB k l1 l2 l3) l2 l3 cr (l.drop p)).key).toInt), .int .i64 (((stepC (chkB k l1 l2 l3) l2 l3 cr (l.drop p)).value).toInt), .int .i64 (((stepC (chkB k l1 l2 l3) l2 l3 cr (l.drop p)).seq).toInt)]) rfl rfl rfl rfl Try.sizeOf23 .h (Nat.le_of_ble_eq_true rfl) rfl ?_
          refine wpL_nil ?_
          refine thenS_n ?_
          refine wpS_seq ?_
          refine wpS_region ?_
          refine s_y (v := .bool true) (y_call (args := #[]) (v := .bool true) Try.call90 ev0 (fun w hs => awake15_c w)) rfl ?_
          refine s_y (v := .bool true) (y_move rfl) rfl ?_
          refine s_gy (y_move h9_14) rfl rfl rfl rfl rfl rfl ?_
          refine s_gy (y_move rfl) rfl rfl rfl rfl rfl rfl ?_
          refine s_ge rfl rfl rfl rfl rfl rfl ?_
          refine e_appendL (enc := recV) (xs := (xs : List Rec)) (ns := ((stepO (chkB k l1 l2 l3) l2 l3 cr (l.drop p)) : List Rec)) (zs := (xs ++ (stepO (chkB k l1 l2 l3) l2 l3 cr (l.drop p)))) (bytes := 32) recV_len recV_one Try.underlying69 (i := Try.t23) rfl rfl rfl rfl rfl (by decide) rfl rfl (by first | rfl | omega) (by first | rfl | omega) (.t (.t .h)) (oslR (.t .h)) (by first | rfl | simp) (by (try simp only [List.length_append, List.length_cons, List.length_nil] at *); omega) (by (try simp only [List.length_append, List.length_cons, List.length_nil] at *); omega) ?_
          intro a_36 c_37
          refine s_gy (y_move h7_14) rfl rfl rfl rfl rfl rfl ?_
          refine s_gy (y_call (args := #[.slice a_36 ((xs ++ (stepO (chkB k l1 l2 l3) l2 l3 cr (l.drop p))).length) c_37, .slice a_5 ((stepO (chkB k l1 l2 l3) l2 l3 (Rec.mk true 0 0 0) l).length) c_6]) (v := .bool (decide ((xs ++ (stepO (chkB k l1 l2 l3) l2 l3 cr (l.drop p))) = (stepO (chkB k l1 l2 l3) l2 l3 (Rec.mk true 0 0 0) l)))) Try.call77 (ev2 rfl rfl) (fun w hs => plain_c a_36 a_5 ((xs ++ (stepO (chkB k l1 l2 l3) l2 l3 cr (l.drop p))).length) c_37 ((stepO (chkB k l1 l2 l3) l2 l3 (Rec.mk true 0 0 0) l).length) c_6 (xs ++ (stepO (chkB k l1 l2 l3) l2 l3 cr (l.drop p))) (stepO (chkB k l1 l2 l3) l2 l3 (Rec.mk true 0 0 0) l) w rfl rfl (oslR .h w hs) (oslR (.t (.t (.t (.t (.t (.t .h)))))) w hs) (by omega) (by omega))) rfl rfl rfl rfl rfl rfl ?_
          refine s_y (v := .bool (decide ((xs ++ (stepO (chkB k l1 l2 l3) l2 l3 cr (l.drop p))) = (stepO (chkB k l1 l2 l3) l2 l3 (Rec.mk true 0 0 0) l)))) (y_pickT (v := .bool (decide ((xs ++ (stepO (chkB k l1 l2 l3) l2 l3 cr (l.drop p))) = (stepO (chkB k l1 l2 l3) l2 l3 (Rec.mk true 0 0 0) l)))) rfl rfl rfl) rfl ?_
          refine s_y (v := .bool (decide ((xs ++ (stepO (chkB k l1 l2 l3) l2 l3 cr (l.drop p))) = (stepO (chkB k l1 l2 l3) l2 l3 (Rec.mk true 0 0 0) l)))) (y_move rfl) rfl ?_
          refine s_gy (y_loadN (vs := [.bool ((stepC (chkB k l1 l2 l3) l2 l3 cr (l.drop p)).dead), .int .i64 (((stepC (chkB k l1 l2 l3) l2 l3 cr (l.drop p)).key).toInt), .int .i64 (((stepC (chkB k l1 l2 l3) l2 l3 cr (l.drop p)).value).toInt), .int .i64 (((stepC (chkB k l1 l2 l3) l2 l3 cr (l.drop p)).seq).toInt)]) rfl Try.isAgg23 Try.sizeOf23 (ownN (.t .h) rfl)) rfl rfl rfl rfl (b' := decide ((xs ++ (stepO (chkB k l1 l2 l3) l2 l3 cr (l.drop p))) = (stepO (chkB k l1 l2 l3) l2 l3 (Rec.mk true 0 0 0) l))) rfl (decide_eq_true (cut_end hok (by assumption) (by assumption)).1) ?_
          refine s_gy (y_loadN (vs := [.bool ((stepC (chkB k l1 l2 l3) l2 l3 (Rec.mk true 0 0 0) l).dead), .int .i64 (((stepC (chkB k l1 l2 l3) l2 l3 (Rec.mk true 0 0 0) l).key).toInt), .int .i64 (((stepC (chkB k l1 l2 l3) l2 l3 (Rec.mk true 0 0 0) l).value).toInt), .int .i64 (((stepC (chkB k l1 l2 l3) l2 l3 (Rec.mk true 0 0 0) l).seq).toInt)]) h8_14 Try.isAgg23 Try.sizeOf23 (ownN (.t (.t (.t (.t (.t .h))))) rfl)) rfl rfl rfl rfl (b' := decide ((xs ++ (stepO (chkB k l1 l2 l3) l2 l3 cr (l.drop p))) = (stepO (chkB k l1 l2 l3) l2 l3 (Rec.mk true 0 0 0) l))) rfl (decide_eq_true (cut_end hok (by assumption) (by assumption)).1) ?_
          refine s_gy (y_eqlS (a := #[.bool ((stepC (chkB k l1 l2 l3) l2 l3 cr (l.drop p)).dead), .int .i64 (((stepC (chkB k l1 l2 l3) l2 l3 cr (l.drop p)).key).toInt), .int .i64 (((stepC (chkB k l1 l2 l3) l2 l3 cr (l.drop p)).value).toInt), .int .i64 (((stepC (chkB k l1 l2 l3) l2 l3 cr (l.drop p)).seq).toInt)]) (b := #[.bool ((stepC (chkB k l1 l2 l3) l2 l3 (Rec.mk true 0 0 0) l).dead), .int .i64 (((stepC (chkB k l1 l2 l3) l2 l3 (Rec.mk true 0 0 0) l).key).toInt), .int .i64 (((stepC (chkB k l1 l2 l3) l2 l3 (Rec.mk true 0 0 0) l).value).toInt), .int .i64 (((stepC (chkB k l1 l2 l3) l2 l3 (Rec.mk true 0 0 0) l).seq).toInt)]) (c := decide ((stepC (chkB k l1 l2 l3) l2 l3 cr (l.drop p)) = (stepC (chkB k l1 l2 l3) l2 l3 (Rec.mk true 0 0 0) l))) Try.eqGuardType23 (fun w => equalR w (stepC (chkB k l1 l2 l3) l2 l3 cr (l.drop p)) (stepC (chkB k l1 l2 l3) l2 l3 (Rec.mk true 0 0 0) l)) rfl rfl) rfl rfl rfl rfl (b' := decide ((xs ++ (stepO (chkB k l1 l2 l3) l2 l3 cr (l.drop p))) = (stepO (chkB k l1 l2 l3) l2 l3 (Rec.mk true 0 0 0) l))) rfl (decide_eq_true (cut_end hok (by assumption) (by assumption)).1) ?_
          refine s_y (v := .bool (decide ((stepC (chkB k l1 l2 l3) l2 l3 cr (l.drop p)) = (stepC (chkB k l1 l2 l3) l2 l3 (Rec.mk true 0 0 0) l)))) (y_pickT (b := decide ((xs ++ (stepO (chkB k l1 l2 l3) l2 l3 cr (l.drop p))) = (stepO (chkB k l1 l2 l3) l2 l3 (Rec.mk true 0 0 0) l))) (v := .bool (decide ((stepC (chkB k l1 l2 l3) l2 l3 cr (l.drop p)) = (stepC (chkB k l1 l2 l3) l2 l3 (Rec.mk true 0 0 0) l)))) rfl (decide_eq_true (cut_end hok (by assumption) (by assumption)).1) rfl) rfl ?_
          refine s_y (v := .bool (decide ((stepC (chkB k l1 l2 l3) l2 l3 cr (l.drop p)) = (stepC (chkB k l1 l2 l3) l2 l3 (Rec.mk true 0 0 0) l)))) (y_assign rfl) rfl ?_
          refine wpL_nil ?_
          refine thenS_n ?_
          refine wpS_ret ?_
          refine fin1 (v := .bool (decide ((stepC (chkB k l1 l2 l3) l2 l3 cr (l.drop p)) = (stepC (chkB k l1 l2 l3) l2 l3 (Rec.mk true 0 0 0) l)))) (.inr rfl) (.nil) Try.results25 rfl ?_
          exact fun w' hs => ⟨congrArg (fun b => Ending.returned (Value.bool b)) (show (decide ((stepC (chkB k l1 l2 l3) l2 l3 cr (l.drop p)) = (stepC (chkB k l1 l2 l3) l2 l3 (Rec.mk true 0 0 0) l))) = true from (decide_eq_true (cut_end hok (by assumption) (by assumption)).2)), hs⟩

end Go.Proofs.Ytldkjjnjdjfipaa
