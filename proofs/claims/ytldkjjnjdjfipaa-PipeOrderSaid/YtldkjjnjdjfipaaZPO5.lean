/- RPorder: a part of it: what its walk and its plain law need. -/
import Derived.WalkKit
import Derived.WalkSpells
import Derived.WalkLawsBesides
import Derived.TacticsIn
import Derived.OrdersIn
import Derived.RangeFuncIn
import Derived.RangeFuncLeaves
import Derived.RangeFuncRecord
import Derived.KernelRfl
import Derived.Maps.AppendAt
import Derived.Laws.Cover3
import Derived.Laws.MakeOwn
import Derived.Test.YtldkjjnjdjfipaaRows
import Derived.Test.YtldkjjnjdjfipaaZPO4
namespace Go.Proofs.Ytldkjjnjdjfipaa
open Go Go.RowKit
set_option linter.unusedVariables false
set_option linter.unusedSimpArgs false
set_option maxRecDepth 10000
set_option maxHeartbeats 1000000
theorem rightJ_c {R m S : Nat} {W : Int} {nb K : Nat} (h : JP R m S W nb K) (w : World) : Pure Try.prog 206 #[.agg #[.int .i64 (((R : Nat) : Int)), .int .i64 (((m : Nat) : Int)), .int .i64 (((S : Nat) : Int)), .int .i64 (W)]] w (.int .i64 0) := by
  have h1 := right_c ⟨R, m, S, W⟩ w
  have h2 : bad ⟨R, m, S, W⟩ = 0 := by unfold bad; rw [if_pos h.ok]
  rw [h2] at h1
  exact h1
theorem may_c (a1 a2 a3 : Option Addr) (n1 c1 n2 c2 n3 c3 : Nat) (l1 l2 l3 : List Opc) (R m S : Nat) (W : Int) (nb K : Nat) (ga : Option Addr) (gc : Nat) (li : List Pr) (w : World) (hj : JP R m S W nb K) (hn1 : l1.length = n1) (hr1 : Rds w a1 (l1.flatMap opcV)) (hb1 : n1 ≤ 1000000) (hn2 : l2.length = n2) (hr2 : Rds w a2 (l2.flatMap opcV)) (hb2 : n2 ≤ 1000000) (hn3 : l3.length = n3) (hr3 : Rds w a3 (l3.flatMap opcV)) (hb3 : n3 ≤ 1000000) (hck : (chkB ((m : Nat) : Int) l1 l2 l3) = true) (hl : li.length = R) : Pure Try.prog 207 #[.agg #[.int .i64 (((m : Nat) : Int)), .slice a1 n1 c1, .slice a2 n2 c2, .slice a3 n3 c3], .agg #[.int .i64 (((R : Nat) : Int)), .int .i64 (((m : Nat) : Int)), .int .i64 (((S : Nat) : Int)), .int .i64 (W)], .slice ga R gc] w (.int .i64 0) := by
 refine calls_S (n := 31) (σ0 := (upd (upd (upd fr0 0 (.agg #[.int .i64 (((m : Nat) : Int)), .slice a1 n1 c1, .slice a2 n2 c2, .slice a3 n3 c3])) 1 (.agg #[.int .i64 (((R : Nat) : Int)), .int .i64 (((m : Nat) : Int)), .int .i64 (((S : Nat) : Int)), .int .i64 (W)])) 2 (.slice ga R gc))) (D := []) (A := []) Try.func207 rfl Try.ntmps207 rfl (a3_fr _ _ _) (SH.start w) ?_
 refine wpS_seq ?_
 refine wpS_region ?_
 refine s_e rfl ?_
 refine e_box (v := .agg #[.int .i64 (((m : Nat) : Int)), .slice a1 n1 c1, .slice a2 n2 c2, .slice a3 n3 c3]) (l := [.int .i64 (((m : Nat) : Int)), .slice a1 n1 c1, .slice a2 n2 c2, .slice a3 n3 c3]) rfl rfl ?_
 intro b_1
 refine s_e rfl ?_
 refine e_box (v := .agg #[.int .i64 (((R : Nat) : Int)), .int .i64 (((m : Nat) : Int)), .int .i64 (((S : Nat) : Int)), .int .i64 (W)]) (l := [.int .i64 (((R : Nat) : Int)), .int .i64 (((m : Nat) : Int)), .int .i64 (((S : Nat) : Int)), .int .i64 (W)]) rfl rfl ?_
 intro b_2
 refine s_y (v := .int .i64 0) (y_assign rfl) rfl ?_
 refine wpL_nil ?_
 refine thenS_n ?_
 refine wpS_seq ?_
 refine wpS_seq ?_
 refine wpS_region ?_
 refine s_y (v := .agg #[.int .i64 (((R : Nat) : Int)), .int .i64 (((m : Nat) : Int)), .int .i64 (((S : Nat) : Int)), .int .i64 (W)]) (y_loadN (vs := [.int .i64 (((R : Nat) : Int)), .int .i64 (((m : Nat) : Int)), .int .i64 (((S : Nat) : Int)), .int .i64 (W)]) rfl Try.isAgg53 Try.sizeOf53 (ownN .h rfl)) rfl ?_
 refine s_y (v := .int .i64 0) (y_call (args := #[.agg #[.int .i64 (((R : Nat) : Int)), .int .i64 (((m : Nat) : Int)), .int .i64 (((S : Nat) : Int)), .int .i64 (W)]]) (v := .int .i64 0) Try.call206 (ev1 rfl) (fun w hs => rightJ_c hj w)) rfl ?_
 refine s_y (v := .int .i64 0) (y_assign rfl) rfl ?_
 refine wpL_nil ?_
 refine thenS_n ?_
 refine wpS_block ?_
 refine wpS_seq ?_
 refine wpS_region ?_
 refine s_y (v := .int .i64 0) (y_move rfl) rfl ?_
 refine s_y (v := .bool false) (y_neq (a := 0) (b := 0) (c := false) rfl rfl (by decide)) rfl ?_
 refine s_y (v := .bool false) (y_assign rfl) rfl ?_
 refine wpL_nil ?_
 refine thenS_n ?_
 refine wpS_cond_f rfl ?_
 refine wpS_seq ?_
 refine wpS_region ?_
 refine s_y (v := .agg #[.int .i64 (((m : Nat) : Int)), .slice a1 n1 c1, .slice a2 n2 c2, .slice a3 n3 c3]) (y_loadN (vs := [.int .i64 (((m : Nat) : Int)), .slice a1 n1 c1, .slice a2 n2 c2, .slice a3 n3 c3]) rfl Try.isAgg84 Try.sizeOf84 (ownN (.t .h) rfl)) rfl ?_
 refine s_y (v := .int .i64 0) (y_call (args := #[.agg #[.int .i64 (((m : Nat) : Int)), .slice a1 n1 c1, .slice a2 n2 c2, .slice a3 n3 c3]]) (v := .int .i64 0) Try.call84 (ev1 rfl) (fun w hs => by have h := check_c ((m : Nat) : Int) a1 a2 a3 n1 c1 n2 c2 n3 c3 l1 l2 l3 w hn1 ((oldR hr1) w hs) (by omega) hn2 ((oldR hr2) w hs) (by omega) hn3 ((oldR hr3) w hs) (by omega); rw [chk_0 hck] at h; exact h)) rfl ?_
 refine s_y (v := .bool false) (y_neq (a := 0) (b := 0) (c := false) rfl rfl (by decide)) rfl ?_
 refine s_y (v := .bool false) (y_move rfl) rfl ?_
 refine s_gy (y_fieldAddr (o' := 0) rfl Try.underlying84 rfl Try.sizeOf3 (by decide) rfl) rfl rfl rfl rfl rfl rfl ?_
 refine s_gy (y_load1 rfl Try.isAgg3 (own1 (.t .h) rfl)) rfl rfl rfl rfl rfl rfl ?_
 refine s_gy (y_fieldAddr (o' := 1) rfl Try.underlying53 rfl Try.sizeOf3 (by decide) rfl) rfl rfl rfl rfl rfl rfl ?_
 refine s_gy (y_load1 rfl Try.isAgg3 (own1 .h rfl)) rfl rfl rfl rfl rfl rfl ?_
 refine s_gy (y_neq (a := ((m : Nat) : Int)) (b := ((m : Nat) : Int)) (c := decide (m ≠ m)) rfl rfl (decide_eq_decide.2 (by omega))) rfl rfl rfl rfl rfl rfl ?_
 refine s_y (v := .bool (decide (m ≠ m))) (y_pickF (v := .bool (decide (m ≠ m))) rfl rfl rfl) rfl ?_
 refine s_y (v := .bool (decide (m ≠ m))) (y_assign rfl) rfl ?_
 refine wpL_nil ?_
 refine thenS_n ?_
 refine wpS_cond_F (t := decide (m ≠ m)) rfl (decide_eq_false (by omega)) ?_
 refine wpS_seq ?_
 refine wpS_region ?_
 refine s_y (v := .slice ga R gc) (y_move rfl) rfl ?_
 refine s_y (v := .int .i64 (((R : Nat) : Int))) (y_len (ty' := 0) (at_ := #[]) rfl Try.underlying153) rfl ?_
 refine s_y (v := .pointer (some ⟨b_2, 0, none⟩)) (y_fieldAddr (o' := 0) rfl Try.underlying53 rfl Try.sizeOf3 (by decide) rfl) rfl ?_
 refine s_y (v := .int .i64 (((R : Nat) : Int))) (y_load1 rfl Try.isAgg3 (own1 .h rfl)) rfl ?_
 refine s_y (v := .bool (decide (R ≠ R))) (y_neq (a := ((R : Nat) : Int)) (b := ((R : Nat) : Int)) (c := decide (R ≠ R)) rfl rfl (decide_eq_decide.2 (by omega))) rfl ?_
 refine s_y (v := .bool (decide (R ≠ R))) (y_assign rfl) rfl ?_
 refine wpL_nil ?_
 refine thenS_n ?_
 refine wpS_cond_F (t := decide (R ≠ R)) rfl (decide_eq_false (by omega)) ?_
 refine wpS_skip ?_
 refine blockS_n ?_
 refine thenS_n ?_
 refine wpS_seq ?_
 refine wpS_region ?_
 refine s_y (v := .int .i64 0) (y_assign rfl) rfl ?_
 refine wpL_nil ?_
 refine thenS_n ?_
 refine wpS_ret ?_
 refine fin1 (M := []) (v := .int .i64 0) (.inr rfl) (.nil) Try.results207 rfl ?_
 exact fun w' hs => ⟨rfl, hs⟩
theorem stage_c (a1 a2 a3 : Option Addr) (n1 c1 n2 c2 n3 c3 : Nat) (l1 l2 l3 : List Opc) (R m S : Nat) (W : Int) (nb K : Nat) (ga : Option Addr) (gc : Nat) (li : List Pr) (t : Nat) (w : World) (hj : JP R m S W nb K) (hn1 : l1.length = n1) (hr1 : Rds w a1 (l1.flatMap opcV)) (hb1 : n1 ≤ 1000000) (hn2 : l2.length = n2) (hr2 : Rds w a2 (l2.flatMap opcV)) (hb2 : n2 ≤ 1000000) (hn3 : l3.length = n3) (hr3 : Rds w a3 (l3.flatMap opcV)) (hb3 : n3 ≤ 1000000) (hck : (chkB ((m : Nat) : Int) l1 l2 l3) = true) (hl : li.length = R) (hr : Rds w ga (li.flatMap prV)) (ht1 : 1 ≤ t) (ht2 : t ≤ 2 + 2 * (rnd ((2 ^ K : Nat) : Int))) : Makes Try.prog 136 #[.agg #[.int .i64 (((m : Nat) : Int)), .slice a1 n1 c1, .slice a2 n2 c2, .slice a3 n3 c3], .agg #[.int .i64 (((R : Nat) : Int)), .int .i64 (((m : Nat) : Int)), .int .i64 (((S : Nat) : Int)), .int .i64 (W)], .slice ga R gc, .int .i64 (((t : Nat) : Int))] w [] (X := (Option Addr × Nat) × List SlH) (fun x => .tuple #[.slice x.1.1 (2 ^ K) x.1.2, .int .i64 0]) (fun x => [osl x.1.1 x.1.2 (2 ^ K) 1 69 (x.2.flatMap slhV), fam x.2 (stg3 (chkB ((m : Nat) : Int) l1 l2 l3) l2 l3 K (mpD (chkB ((m : Nat) : Int) l1 l2 l3) ((m : Nat) : Int) l1 S m li nb (2 ^ K)) t)]) (fun x => x.2.length = (2 ^ K) ∧ ∀ k, k < (2 ^ K) → (x.2.getD k default).n = S) := by
 refine calls_S (n := 98) (σ0 := (upd (upd (upd (upd fr0 0 (.agg #[.int .i64 (((m : Nat) : Int)), .slice a1 n1 c1, .slice a2 n2 c2, .slice a3 n3 c3])) 1 (.agg #[.int .i64 (((R : Nat) : Int)), .int .i64 (((m : Nat) : Int)), .int .i64 (((S : Nat) : Int)), .int .i64 (W)])) 2 (.slice ga R gc)) 3 (.int .i64 (((t : Nat) : Int))))) (D := []) (A := []) Try.func136 rfl Try.ntmps136 rfl (a4_fr _ _ _ _) (SH.start w) ?_
 obtain ⟨hjok, hjb, hjs, hK5, ⟨hR1, hR2⟩, ⟨hm1, hm2⟩, ⟨hS1, hS2⟩, hnm, hrs, hrs2, ⟨hnb1, hnb2⟩⟩ := hj
 have hj : JP R m S W nb K := ⟨hjok, hjb, hjs, hK5, ⟨hR1, hR2⟩, ⟨hm1, hm2⟩, ⟨hS1, hS2⟩, hnm, hrs, hrs2, ⟨hnb1, hnb2⟩⟩
 have hp2 : 2 ^ K ≤ 32 := Nat.pow_le_pow_right (n := 2) (by decide) hK5
 have hp1 := Nat.two_pow_pos K
 have hI := jpM (li := li) hj hck
 have hrt : (rnd ((2 ^ K : Nat) : Int)) ≤ 21 := rnd21 (by omega)
 refine wpS_seq ?_
 refine wpS_region ?_
 refine s_e rfl ?_
 refine e_box (v := .agg #[.int .i64 (((m : Nat) : Int)), .slice a1 n1 c1, .slice a2 n2 c2, .slice a3 n3 c3]) (l := [.int .i64 (((m : Nat) : Int)), .slice a1 n1 c1, .slice a2 n2 c2, .slice a3 n3 c3]) rfl rfl ?_
 intro b_1
 refine s_e rfl ?_
 refine e_box (v := .agg #[.int .i64 (((R : Nat) : Int)), .int .i64 (((m : Nat) : Int)), .int .i64 (((S : Nat) : Int)), .int .i64 (W)]) (l := [.int .i64 (((R : Nat) : Int)), .int .i64 (((m : Nat) : Int)), .int .i64 (((S : Nat) : Int)), .int .i64 (W)]) rfl rfl ?_
 intro b_2
 refine s_y (v := .slice none 0 0) (y_assign rfl) rfl ?_
 refine s_y (v := .int .i64 0) (y_assign rfl) rfl ?_
 refine wpL_nil ?_
 refine thenS_n ?_
 refine wpS_seq ?_
 refine wpS_seq ?_
 refine wpS_region ?_
 refine s_y (v := .agg #[.int .i64 (((m : Nat) : Int)), .slice a1 n1 c1, .slice a2 n2 c2, .slice a3 n3 c3]) (y_loadN (vs := [.int .i64 (((m : Nat) : Int)), .slice a1 n1 c1, .slice a2 n2 c2, .slice a3 n3 c3]) rfl Try.isAgg84 Try.sizeOf84 (ownN (.t .h) rfl)) rfl ?_
 refine s_y (v := .agg #[.int .i64 (((R : Nat) : Int)), .int .i64 (((m : Nat) : Int)), .int .i64 (((S : Nat) : Int)), .int .i64 (W)]) (y_loadN (vs := [.int .i64 (((R : Nat) : Int)), .int .i64 (((m : Nat) : Int)), .int .i64 (((S : Nat) : Int)), .int .i64 (W)]) rfl Try.isAgg53 Try.sizeOf53 (ownN .h rfl)) rfl ?_
 refine s_y (v := .slice ga R gc) (y_move rfl) rfl ?_
 refine s_y (v := .int .i64 0) (y_call (args := #[.agg #[.int .i64 (((m : Nat) : Int)), .slice a1 n1 c1, .slice a2 n2 c2, .slice a3 n3 c3], .agg #[.int .i64 (((R : Nat) : Int)), .int .i64 (((m : Nat) : Int)), .int .i64 (((S : Nat) : Int)), .int .i64 (W)], .slice ga R gc]) (v := .int .i64 0) Try.call207 (ev3 rfl rfl rfl) (fun w hs => may_c a1 a2 a3 n1 c1 n2 c2 n3 c3 l1 l2 l3 R m S W nb K ga gc li w hj hn1 ((oldR hr1) w hs) (by omega) hn2 ((oldR hr2) w hs) (by omega) hn3 ((oldR hr3) w hs) (by omega) hck hl)) rfl ?_
 refine s_y (v := .int .i64 0) (y_assign rfl) rfl ?_
 refine wpL_nil ?_
 refine thenS_n ?_
 refine wpS_seq ?_
 refine wpS_region ?_
 refine s_y (v := .int .i64 0) (y_move rfl) rfl ?_
 refine s_y (v := .bool false) (y_neq (a := 0) (b := 0) (c := false) rfl rfl (by decide)) rfl ?_
 refine wpL_nil ?_
 refine thenS_n ?_
 refine wpS_cond_f rfl ?_
 refine wpS_skip ?_
 refine thenS_n ?_
 refine wpS_seq ?_
 refine wpS_region ?_
 refine s_y (v := .agg #[.int .i64 (((R : Nat) : Int)), .int .i64 (((m : Nat) : Int)), .int .i64 (((S : Nat) : Int)), .int .i64 (W)]) (y_loadN (vs := [.int .i64 (((R : Nat) : Int)), .int .i64 (((m : Nat) : Int)), .int .i64 (((S : Nat) : Int)), .int .i64 (W)]) rfl Try.isAgg53 Try.sizeOf53 (ownN .h rfl)) rfl ?_
 refine s_y (v := .tuple #[.int .i64 (((nb : Nat) : Int)), .int .i64 ((((2 ^ K) : Nat) : Int))]) (y_call (args := #[.agg #[.int .i64 (((R : Nat) : Int)), .int .i64 (((m : Nat) : Int)), .int .i64 (((S : Nat) : Int)), .int .i64 (W)]]) (v := .tuple #[.int .i64 (((nb : Nat) : Int)), .int .i64 ((((2 ^ K) : Nat) : Int))]) Try.call135 (ev1 rfl) (fun w hs => blocksJ_c hj w)) rfl ?_
 refine s_y (v := .tuple #[.int .i64 (((nb : Nat) : Int)), .int .i64 ((((2 ^ K) : Nat) : Int))]) (y_move rfl) rfl ?_
 refine s_y (v := .int .i64 (((nb : Nat) : Int))) (y_extract (v := .int .i64 (((nb : Nat) : Int))) rfl rfl) rfl ?_
 refine s_y (v := .int .i64 ((((2 ^ K) : Nat) : Int))) (y_extract (v := .int .i64 ((((2 ^ K) : Nat) : Int))) rfl rfl) rfl ?_
 refine s_y (v := .int .i64 (((nb : Nat) : Int))) (y_assign rfl) rfl ?_
 refine s_y (v := .int .i64 ((((2 ^ K) : Nat) : Int))) (y_assign rfl) rfl ?_
 refine wpL_nil ?_
 refine thenS_n ?_
 refine wpS_seq ?_
 refine wpS_region ?_
 refine s_y (v := .int .i64 ((((2 ^ K) : Nat) : Int))) (y_move rfl) rfl ?_
 refine s_y (v := .int .i64 ((((rnd ((((2 ^ K) : Nat) : Int))) : Nat) : Int))) (y_call (args := #[.int .i64 ((((2 ^ K) : Nat) : Int))]) (v := .int .i64 ((((rnd ((((2 ^ K) : Nat) : Int))) : Nat) : Int))) Try.call52 (ev1 rfl) (fun w hs => rounds_c ((((2 ^ K) : Nat) : Int)) (by omega) (by omega) w)) rfl ?_
 refine s_y (v := .int .i64 ((((rnd ((((2 ^ K) : Nat) : Int))) : Nat) : Int))) (y_assign rfl) rfl ?_
 refine wpL_nil ?_
 refine thenS_n ?_
 refine wpS_seq ?_
 refine wpS_block ?_
 refine wpS_seq ?_
 refine wpS_region ?_
 refine s_y (v := .int .i64 (((t : Nat) : Int))) (y_move rfl) rfl ?_
 refine s_y (v := .bool (decide ((t : Nat) < 0))) (y_lss (a := ((t : Nat) : Int)) (b := 0) (c := decide ((t : Nat) < 0)) rfl rfl (decide_eq_decide.2 (by omega))) rfl ?_
 refine s_y (v := .bool (decide ((t : Nat) < 0))) (y_move rfl) rfl ?_
 refine s_gy (y_move rfl) rfl rfl rfl rfl (b' := decide ((t : Nat) < 0)) rfl (decide_eq_false (by omega)) ?_
 refine s_gy (y_move rfl) rfl rfl rfl rfl (b' := decide ((t : Nat) < 0)) rfl (decide_eq_false (by omega)) ?_
 refine s_gy (y_mul (a := 2) (b := (((rnd ((((2 ^ K) : Nat) : Int))) : Nat) : Int)) (c := (((2 * (rnd ((((2 ^ K) : Nat) : Int)))) : Nat) : Int)) rfl rfl (wI (by omega) (by omega) (by omega))) rfl rfl rfl rfl (b' := decide ((t : Nat) < 0)) rfl (decide_eq_false (by omega)) ?_
 refine s_gy (y_add (a := 2) (b := (((2 * (rnd ((((2 ^ K) : Nat) : Int)))) : Nat) : Int)) (c := (((2 + (2 * (rnd ((((2 ^ K) : Nat) : Int))))) : Nat) : Int)) rfl rfl (wI (by omega) (by omega) (by omega))) rfl rfl rfl rfl (b' := decide ((t : Nat) < 0)) rfl (decide_eq_false (by omega)) ?_
 refine s_gy (y_gtr (a := ((t : Nat) : Int)) (b := (((2 + (2 * (rnd ((((2 ^ K) : Nat) : Int))))) : Nat) : Int)) (c := decide ((2 + (2 * (rnd ((((2 ^ K) : Nat) : Int))))) < t)) rfl rfl (decide_eq_decide.2 (by omega))) rfl rfl rfl rfl (b' := decide ((t : Nat) < 0)) rfl (decide_eq_false (by omega)) ?_
 refine s_y (v := .bool (decide ((2 + (2 * (rnd ((((2 ^ K) : Nat) : Int))))) < t))) (y_pickF (b := decide ((t : Nat) < 0)) (v := .bool (decide ((2 + (2 * (rnd ((((2 ^ K) : Nat) : Int))))) < t))) rfl (decide_eq_false (by omega)) rfl) rfl ?_
 refine s_y (v := .bool (decide ((2 + (2 * (rnd ((((2 ^ K) : Nat) : Int))))) < t))) (y_assign rfl) rfl ?_
 refine wpL_nil ?_
 refine thenS_n ?_
 refine wpS_cond_F (t := decide ((2 + (2 * (rnd ((((2 ^ K) : Nat) : Int))))) < t)) rfl (decide_eq_false (by omega)) ?_
 refine wpS_seq ?_
 refine wpS_region ?_
 refine s_y (v := .int .i64 (((t : Nat) : Int))) (y_move rfl) rfl ?_
 refine s_y (v := .bool (decide ((t : Nat) = 0))) (y_eql (a := ((t : Nat) : Int)) (b := 0) (c := decide ((t : Nat) = 0)) rfl rfl (decide_eq_decide.2 (by omega))) rfl ?_
 refine s_y (v := .bool (decide ((t : Nat) = 0))) (y_assign rfl) rfl ?_
 refine wpL_nil ?_
 refine thenS_n ?_
 refine wpS_cond_F (t := decide ((t : Nat) = 0)) rfl (decide_eq_false (by omega)) ?_
 refine wpS_skip ?_
 refine blockS_n ?_
 refine thenS_n ?_
 refine wpS_seq ?_
 refine wpS_region ?_
 refine s_y (v := .agg #[.int .i64 (((m : Nat) : Int)), .slice a1 n1 c1, .slice a2 n2 c2, .slice a3 n3 c3]) (y_loadN (vs := [.int .i64 (((m : Nat) : Int)), .slice a1 n1 c1, .slice a2 n2 c2, .slice a3 n3 c3]) rfl Try.isAgg84 Try.sizeOf84 (ownN (.t .h) rfl)) rfl ?_
 refine s_y (v := .agg #[.int .i64 (((R : Nat) : Int)), .int .i64 (((m : Nat) : Int)), .int .i64 (((S : Nat) : Int)), .int .i64 (W)]) (y_loadN (vs := [.int .i64 (((R : Nat) : Int)), .int .i64 (((m : Nat) : Int)), .int .i64 (((S : Nat) : Int)), .int .i64 (W)]) rfl Try.isAgg53 Try.sizeOf53 (ownN .h rfl)) rfl ?_
 refine s_y (v := .slice ga R gc) (y_move rfl) rfl ?_
 refine s_e rfl ?_
 refine e_call (f := 208) (args := #[.agg #[.int .i64 (((m : Nat) : Int)), .slice a1 n1 c1, .slice a2 n2 c2, .slice a3 n3 c3], .agg #[.int .i64 (((R : Nat) : Int)), .int .i64 (((m : Nat) : Int)), .int .i64 (((S : Nat) : Int)), .int .i64 (W)], .slice ga R gc]) (X := (Option Addr × Nat) × List SlH) (A := []) (M := [cel b_2 53 [.int .i64 (((R : Nat) : Int)), .int .i64 (((m : Nat) : Int)), .int .i64 (((S : Nat) : Int)), .int .i64 (W)], cel b_1 84 [.int .i64 (((m : Nat) : Int)), .slice a1 n1 c1, .slice a2 n2 c2, .slice a3 n3 c3]]) (V := fun x => .slice x.1.1 (2 ^ K) x.1.2) (A' := fun x => [osl x.1.1 x.1.2 (2 ^ K) 1 69 (x.2.flatMap slhV), fam x.2 (mpD (chkB ((m : Nat) : Int) l1 l2 l3) ((m : Nat) : Int) l1 S m li nb (2 ^ K))]) (C := fun x => x.2.length = (2 ^ K) ∧ ∀ k, k < (2 ^ K) → (x.2.getD k default).n = S) Try.call208 (ev3 rfl rfl rfl) (.p .h (.p .h .nil)) (fun w hs => mappedA_c a1 a2 a3 n1 c1 n2 c2 n3 c3 l1 l2 l3 R m S W nb K ga gc li w hj hn1 ((oldR hr1) w hs) (by omega) hn2 ((oldR hr2) w hs) (by omega) hn3 ((oldR hr3) w hs) (by omega) hck hl ((oldR hr) w hs)) ?_
 rintro ⟨⟨a_3, c_4⟩, h_5⟩ ⟨hH6l, hH6n⟩
 replace hH6l : h_5.length = (2 ^ K) := hH6l
 replace hH6n : ∀ k, k < (2 ^ K) → (h_5.getD k default).n = S := hH6n
 refine s_y (v := .slice a_3 (2 ^ K) c_4) (y_assign rfl) rfl ?_
 refine wpL_nil ?_
 refine thenS_n ?_
 refine wpS_seq ?_
 refine wpS_seq ?_
 refine wpS_region ?_
 refine s_y (v := .int .i64 (((t : Nat) : Int))) (y_move rfl) rfl ?_
 refine s_y (v := .int .i64 ((((t - 1) : Nat) : Int))) (y_sub (a := ((t : Nat) : Int)) (b := 1) (c := (((t - 1) : Nat) : Int)) rfl rfl (wI (by omega) (by omega) (by omega))) rfl ?_
 refine s_y (v := .int .i64 ((((rnd ((((2 ^ K) : Nat) : Int))) : Nat) : Int))) (y_move rfl) rfl ?_
 refine s_y (v := .int .i64 ((((min (t - 1) (rnd ((((2 ^ K) : Nat) : Int)))) : Nat) : Int))) (y_min (a := (((t - 1) : Nat) : Int)) (b := (((rnd ((((2 ^ K) : Nat) : Int))) : Nat) : Int)) (c := (((min (t - 1) (rnd ((((2 ^ K) : Nat) : Int)))) : Nat) : Int)) rfl rfl (by split <;> omega)) rfl ?_
 refine s_y (v := .int .i64 0) (y_move rfl) rfl ?_
 refine wpL_nil ?_
 refine thenS_n ?_
 refine wpS_block ?_
 refine wpS_loop (fun mez ds σ L => ∃ q : Nat, ∃ hd : List SlH, mez = (min (t - 1) (rnd ((2 ^ K : Nat) : Int))) - q ∧ (q ≤ min (t - 1) (rnd ((2 ^ K : Nat) : Int))) ∧ (hd.length = 2 ^ K) ∧ (∀ i, i < 2 ^ K → (hd.getD i default).n = S) ∧ ds = [] ∧ σ 3 = .int .i64 (((t : Nat) : Int)) ∧ σ 4 = .pointer (some ⟨b_1, 0, none⟩) ∧ σ 13 = .int .i64 ((((rnd ((((2 ^ K) : Nat) : Int))) : Nat) : Int)) ∧ σ 14 = .slice a_3 (2 ^ K) c_4 ∧ σ 53 = .int .i64 ((((min (t - 1) (rnd ((((2 ^ K) : Nat) : Int)))) : Nat) : Int)) ∧ σ 54 = .int .i64 (((q : Nat) : Int)) ∧ Ent L [osl a_3 c_4 (2 ^ K) 1 69 (hd.flatMap slhV), fam hd (bnet true K (mpD (chkB ((m : Nat) : Int) l1 l2 l3) ((m : Nat) : Int) l1 S m li nb (2 ^ K)) q), cel b_2 53 [.int .i64 (((R : Nat) : Int)), .int .i64 (((m : Nat) : Int)), .int .i64 (((S : Nat) : Int)), .int .i64 (W)], cel b_1 84 [.int .i64 (((m : Nat) : Int)), .slice a1 n1 c1, .slice a2 n2 c2, .slice a3 n3 c3]]) (m0 := (min (t - 1) (rnd ((2 ^ K : Nat) : Int))) - 0) ⟨0, h_5, rfl, by omega, (by assumption), (by assumption), rfl, rfl, rfl, rfl, rfl, rfl, rfl, .p .h (.p .h (.p .h (.p .h .nil)))⟩ ?_
 rintro mez ds σ L ⟨q, hd, hm_7, hf0_7, hf1_7, hf2_7, rfl, h3_7, h4_7, h13_7, h14_7, h53_7, h54_7, hE_7⟩
 refine wpS_ent hE_7 ?_; clear hE_7
 have hbn := (hI.inv1 q (by omega)).1
 refine wpS_seq ?_
 refine wpS_region ?_
 refine s_y (v := .bool (decide (q < (min (t - 1) (rnd ((((2 ^ K) : Nat) : Int))))))) (y_lss (a := ((q : Nat) : Int)) (b := (((min (t - 1) (rnd ((((2 ^ K) : Nat) : Int)))) : Nat) : Int)) (c := decide (q < (min (t - 1) (rnd ((((2 ^ K) : Nat) : Int)))))) h54_7 h53_7 (decide_eq_decide.2 (by omega))) rfl ?_
 refine wpL_nil ?_
 refine thenS_n ?_
 refine wpS_seq ?_
 refine wpS_cond (t := decide (q < (min (t - 1) (rnd ((((2 ^ K) : Nat) : Int)))))) rfl (fun b8 => ?_) (fun b8 => ?_)
 ·
  have p8 := of_decide_eq_true b8
  refine wpS_skip ?_
  refine thenS_n ?_
  refine wpS_seq ?_
  refine wpS_block ?_
  refine wpS_seq ?_
  refine wpS_region ?_
  refine s_y (v := .int .i64 (((q : Nat) : Int))) (y_move h54_7) rfl ?_
  refine s_y (v := .int .i64 (((q : Nat) : Int))) (y_assign rfl) rfl ?_
  refine wpL_nil ?_
  refine thenS_n ?_
  refine wpS_region ?_
  refine s_y (v := .slice a_3 (2 ^ K) c_4) (y_move h14_7) rfl ?_
  refine s_y (v := .int .i64 (((q : Nat) : Int))) (y_move rfl) rfl ?_
  refine s_e rfl ?_
  refine e_call (f := 209) (args := #[.slice a_3 (2 ^ K) c_4, .int .i64 (((q : Nat) : Int)), .bool true]) (X := List SlH) (A := [osl a_3 c_4 (2 ^ K) 1 69 (hd.flatMap slhV), fam hd (bnet true K (mpD (chkB ((m : Nat) : Int) l1 l2 l3) ((m : Nat) : Int) l1 S m li nb (2 ^ K)) q)]) (M := [cel b_2 53 [.int .i64 (((R : Nat) : Int)), .int .i64 (((m : Nat) : Int)), .int .i64 (((S : Nat) : Int)), .int .i64 (W)], cel b_1 84 [.int .i64 (((m : Nat) : Int)), .slice a1 n1 c1, .slice a2 n2 c2, .slice a3 n3 c3]]) (V := fun _ => .tuple #[]) (A' := fun x => [osl a_3 c_4 (2 ^ K) 1 69 (x.flatMap slhV), fam x (bcmp true K q (bnet true K (mpD (chkB ((m : Nat) : Int) l1 l2 l3) ((m : Nat) : Int) l1 S m li nb (2 ^ K)) q) (frs ((2 ^ K : Nat) : Int) ((q : Nat) : Int)).length)]) (C := fun x => x.length = 2 ^ K ∧ ∀ k, k < 2 ^ K → (x.getD k default).n = S) Try.call209 (ev3 rfl rfl rfl) (.p .h (.p .h (.p .h (.p .h .nil)))) (fun w hs => (round_cc a_3 c_4 hd (bnet true K (mpD (chkB ((m : Nat) : Int) l1 l2 l3) ((m : Nat) : Int) l1 S m li nb (2 ^ K)) q) K q S true w (by omega) (by omega) (by assumption) (by assumption) (by first | exact hI.inv1 _ (by omega) | exact hI.inv3 _ (by omega)) (by omega) (SH.lend hs)).mono (fun e w2 hx => hx.elim fun x hx => ⟨x, hx.1, hx.2.1, hx.2.2⟩)) ?_
  rintro h_9 ⟨hR10l, hR10n⟩
  replace hR10l : h_9.length = 2 ^ K := hR10l
  replace hR10n : ∀ k, k < 2 ^ K → (h_9.getD k default).n = S := hR10n
  refine wpL_nil ?_
  refine blockS_n ?_
  refine thenS_n ?_
  refine wpS_region ?_
  refine s_y (v := .int .i64 ((((q + 1) : Nat) : Int))) (y_add (a := ((q : Nat) : Int)) (b := 1) (c := (((q + 1) : Nat) : Int)) h54_7 rfl (wI (by omega) (by omega) (by omega))) rfl ?_
  refine s_y (v := .int .i64 ((((q + 1) : Nat) : Int))) (y_move rfl) rfl ?_
  refine wpL_nil ?_
  refine thenS_n ?_
  rw [bnet_next (by omega) (by omega)]
  exact ⟨_, by omega, ⟨(q + 1), h_9, rfl, by omega, (by assumption), (by assumption), rfl, h3_7, h4_7, h13_7, h14_7, h53_7, rfl, .p .h (.p .h (.p .h (.p .h .nil)))⟩⟩
 ·
  have p8 := of_decide_eq_false b8
  refine wpS_exit ?_
  refine thenS_x ?_
  refine thenS_x ?_
  refine blockS_h ?_
  refine thenS_n ?_
  refine wpS_seq ?_
  refine wpS_seq ?_
  refine wpS_region ?_
  refine s_y (v := .int .i64 (((t : Nat) : Int))) (y_move h3_7) rfl ?_
  refine s_y (v := .int .i64 ((((rnd ((((2 ^ K) : Nat) : Int))) : Nat) : Int))) (y_move h13_7) rfl ?_
  refine s_y (v := .int .i64 ((((2 + (rnd ((((2 ^ K) : Nat) : Int)))) : Nat) : Int))) (y_add (a := 2) (b := (((rnd ((((2 ^ K) : Nat) : Int))) : Nat) : Int)) (c := (((2 + (rnd ((((2 ^ K) : Nat) : Int)))) : Nat) : Int)) rfl rfl (wI (by omega) (by omega) (by omega))) rfl ?_
  refine s_y (v := .bool (decide (t < (2 + (rnd ((((2 ^ K) : Nat) : Int))))))) (y_lss (a := ((t : Nat) : Int)) (b := (((2 + (rnd ((((2 ^ K) : Nat) : Int)))) : Nat) : Int)) (c := decide (t < (2 + (rnd ((((2 ^ K) : Nat) : Int)))))) rfl rfl (decide_eq_decide.2 (by omega))) rfl ?_
  refine wpL_nil ?_
  refine thenS_n ?_
  refine wpS_cond (t := decide (t < (2 + (rnd ((((2 ^ K) : Nat) : Int)))))) rfl (fun b11 => ?_) (fun b11 => ?_)
  ·
   have p11 := of_decide_eq_true b11
   refine wpS_seq ?_
   refine wpS_region ?_
   refine s_y (v := .slice a_3 (2 ^ K) c_4) (y_move h14_7) rfl ?_
   refine s_y (v := .slice a_3 (2 ^ K) c_4) (y_assign rfl) rfl ?_
   refine s_y (v := .int .i64 0) (y_assign rfl) rfl ?_
   refine wpL_nil ?_
   refine thenS_n ?_
   refine wpS_ret ?_
   refine thenS_r ?_
   refine fin2 (M := [osl a_3 c_4 (2 ^ K) 1 69 (hd.flatMap slhV), fam hd (bnet true K (mpD (chkB ((m : Nat) : Int) l1 l2 l3) ((m : Nat) : Int) l1 S m li nb (2 ^ K)) q)]) (.inr rfl) (.p .h (.p .h .nil)) Try.results136 (rvT (v := .slice a_3 (2 ^ K) c_4) rfl) (rvT (v := .int .i64 0) rfl) ?_
   have e2 := stg_lo (b := (chkB ((m : Nat) : Int) l1 l2 l3)) (f := l2) (g := l3) (K := K) (M := (mpD (chkB ((m : Nat) : Int) l1 l2 l3) ((m : Nat) : Int) l1 S m li nb (2 ^ K))) (t := t) (q := q) (by assumption) (by omega)
   exact fun w' hs => ⟨((a_3, c_4), hd), rfl, by rw [← e2]; exact hs, by assumption, by assumption⟩
  ·
   have p11 := of_decide_eq_false b11
   refine wpS_skip ?_
   refine thenS_n ?_
   refine wpS_seq ?_
   refine wpS_region ?_
   refine s_y (v := .agg #[.bool (deadR.dead), .int .i64 (deadR.key.toInt), .int .i64 (deadR.value.toInt), .int .i64 (deadR.seq.toInt)]) (y_call (args := #[]) (v := .agg #[.bool (deadR.dead), .int .i64 (deadR.key.toInt), .int .i64 (deadR.value.toInt), .int .i64 (deadR.seq.toInt)]) Try.call49 ev0 (fun w hs => dead_c w)) rfl ?_
   refine s_e rfl ?_
   refine e_alloc (l := [.bool false, .int .i64 0, .int .i64 0, .int .i64 0]) Try.zeroValue23 rfl ?_
   intro b_12
   refine s_e0 ?_
   refine e_store (vs := [.bool (deadR.dead), .int .i64 (deadR.key.toInt), .int .i64 (deadR.value.toInt), .int .i64 (deadR.seq.toInt)]) (l' := [.bool (deadR.dead), .int .i64 (deadR.key.toInt), .int .i64 (deadR.value.toInt), .int .i64 (deadR.seq.toInt)]) rfl rfl rfl rfl Try.sizeOf23 .h (Nat.le_of_ble_eq_true rfl) rfl ?_
   refine wpL_nil ?_
   refine thenS_n ?_
   refine wpS_seq ?_
   refine wpS_seq ?_
   refine wpS_region ?_
   refine s_y (v := .slice a_3 (2 ^ K) c_4) (y_move h14_7) rfl ?_
   refine s_y (v := .int .i64 ((((2 ^ K) : Nat) : Int))) (y_len (ty' := 0) (at_ := #[]) rfl Try.underlying80) rfl ?_
   refine s_y (v := .int .i64 0) (y_move rfl) rfl ?_
   refine wpL_nil ?_
   refine thenS_n ?_
   refine wpS_block ?_
   have hqr : q = (rnd ((2 ^ K : Nat) : Int)) := by omega
   subst hqr
   refine wpS_loop (fun mez ds σ L => ∃ a : Nat, ∃ hd1 : List SlH, mez = 2 ^ K - a ∧ (a ≤ 2 ^ K) ∧ (hd1.length = 2 ^ K) ∧ (∀ i, i < 2 ^ K → (hd1.getD i default).n = S) ∧ ds = [] ∧ σ 3 = .int .i64 (((t : Nat) : Int)) ∧ σ 4 = .pointer (some ⟨b_1, 0, none⟩) ∧ σ 13 = .int .i64 ((((rnd ((((2 ^ K) : Nat) : Int))) : Nat) : Int)) ∧ σ 14 = .slice a_3 (2 ^ K) c_4 ∧ σ 16 = .pointer (some ⟨b_12, 0, none⟩) ∧ σ 68 = .int .i64 ((((2 ^ K) : Nat) : Int)) ∧ σ 69 = .int .i64 (((a : Nat) : Int)) ∧ Ent L [cel b_12 23 [.bool (((fdT (chkB ((m : Nat) : Int) l1 l2 l3) l2 l3 (bnet true K (mpD (chkB ((m : Nat) : Int) l1 l2 l3) ((m : Nat) : Int) l1 S m li nb (2 ^ K)) (rnd ((2 ^ K : Nat) : Int))) a).2).dead), .int .i64 ((((fdT (chkB ((m : Nat) : Int) l1 l2 l3) l2 l3 (bnet true K (mpD (chkB ((m : Nat) : Int) l1 l2 l3) ((m : Nat) : Int) l1 S m li nb (2 ^ K)) (rnd ((2 ^ K : Nat) : Int))) a).2).key).toInt), .int .i64 ((((fdT (chkB ((m : Nat) : Int) l1 l2 l3) l2 l3 (bnet true K (mpD (chkB ((m : Nat) : Int) l1 l2 l3) ((m : Nat) : Int) l1 S m li nb (2 ^ K)) (rnd ((2 ^ K : Nat) : Int))) a).2).value).toInt), .int .i64 ((((fdT (chkB ((m : Nat) : Int) l1 l2 l3) l2 l3 (bnet true K (mpD (chkB ((m : Nat) : Int) l1 l2 l3) ((m : Nat) : Int) l1 S m li nb (2 ^ K)) (rnd ((2 ^ K : Nat) : Int))) a).2).seq).toInt)], osl a_3 c_4 (2 ^ K) 1 69 (hd1.flatMap slhV), fam hd1 ((fdT (chkB ((m : Nat) : Int) l1 l2 l3) l2 l3 (bnet true K (mpD (chkB ((m : Nat) : Int) l1 l2 l3) ((m : Nat) : Int) l1 S m li nb (2 ^ K)) (rnd ((2 ^ K : Nat) : Int))) a).1), cel b_2 53 [.int .i64 (((R : Nat) : Int)), .int .i64 (((m : Nat) : Int)), .int .i64 (((S : Nat) : Int)), .int .i64 (W)], cel b_1 84 [.int .i64 (((m : Nat) : Int)), .slice a1 n1 c1, .slice a2 n2 c2, .slice a3 n3 c3]]) (m0 := 2 ^ K - 0) ⟨0, hd, rfl, by omega, (by assumption), (by assumption), rfl, h3_7, h4_7, h13_7, h14_7, rfl, rfl, rfl, .p .h (.p .h (.p .h (.p .h (.p .h .nil))))⟩ ?_
   rintro mez ds σ L ⟨a, hd1, hm_13, hf0_13, hf1_13, hf2_13, rfl, h3_13, h4_13, h13_13, h14_13, h16_13, h68_13, h69_13, hE_13⟩
   refine wpS_ent hE_13 ?_; clear hE_13
   have hI2 := hI.inv2 a (by omega)
   have HN1 := (by assumption : ∀ i, i < 2 ^ K → (hd1.getD i default).n = S)
   refine wpS_seq ?_
   refine wpS_region ?_
   refine s_y (v := .bool (decide (a < (2 ^ K)))) (y_lss (a := ((a : Nat) : Int)) (b := (((2 ^ K) : Nat) : Int)) (c := decide (a < (2 ^ K))) h69_13 h68_13 (decide_eq_decide.2 (by omega))) rfl ?_
   refine wpL_nil ?_
   refine thenS_n ?_
   refine wpS_seq ?_
   refine wpS_cond (t := decide (a < (2 ^ K))) rfl (fun b14 => ?_) (fun b14 => ?_)
   ·
    have p14 := of_decide_eq_true b14
    refine wpS_skip ?_
    refine thenS_n ?_
    refine wpS_seq ?_
    refine wpS_block ?_
    refine wpS_seq ?_
    refine wpS_region ?_
    refine s_y (v := .int .i64 (((a : Nat) : Int))) (y_move h69_13) rfl ?_
    refine s_y (v := .int .i64 (((a : Nat) : Int))) (y_assign rfl) rfl ?_
    refine wpL_nil ?_
    refine thenS_n ?_
    refine wpS_anyT [cel b_1 84 [.int .i64 (((m : Nat) : Int)), .slice a1 n1 c1, .slice a2 n2 c2, .slice a3 n3 c3]] [cel b_12 23 [.bool (((fdT (chkB ((m : Nat) : Int) l1 l2 l3) l2 l3 (bnet true K (mpD (chkB ((m : Nat) : Int) l1 l2 l3) ((m : Nat) : Int) l1 S m li nb (2 ^ K)) (rnd ((2 ^ K : Nat) : Int))) a).2).dead), .int .i64 ((((fdT (chkB ((m : Nat) : Int) l1 l2 l3) l2 l3 (bnet true K (mpD (chkB ((m : Nat) : Int) l1 l2 l3) ((m : Nat) : Int) l1 S m li nb (2 ^ K)) (rnd ((2 ^ K : Nat) : Int))) a).2).key).toInt), .int .i64 ((((fdT (chkB ((m : Nat) : Int) l1 l2 l3) l2 l3 (bnet true K (mpD (chkB ((m : Nat) : Int) l1 l2 l3) ((m : Nat) : Int) l1 S m li nb (2 ^ K)) (rnd ((2 ^ K : Nat) : Int))) a).2).value).toInt), .int .i64 ((((fdT (chkB ((m : Nat) : Int) l1 l2 l3) l2 l3 (bnet true K (mpD (chkB ((m : Nat) : Int) l1 l2 l3) ((m : Nat) : Int) l1 S m li nb (2 ^ K)) (rnd ((2 ^ K : Nat) : Int))) a).2).seq).toInt)], osl a_3 c_4 (2 ^ K) 1 69 (hd1.flatMap slhV), cel b_1 84 [.int .i64 (((m : Nat) : Int)), .slice a1 n1 c1, .slice a2 n2 c2, .slice a3 n3 c3]] [0, 1, 2, 4, 5, 9, 10, 11, 13, 14] (by kernel_rfl) ?_
    refine anyT_takeF (i := 0) rfl (by kernel_rfl) (by kernel_rfl) (by kernel_rfl) (by kernel_rfl) (Yq.of (v := .slice a_3 (2 ^ K) c_4) (y_move h14_13) rfl) (.p (.t (.t (.t (.t .h)))) .nil) ?_
    refine anyT_takeF (i := 1) rfl (by kernel_rfl) (by kernel_rfl) (by kernel_rfl) (by kernel_rfl) (Yq.of (v := .int .i64 (((a : Nat) : Int))) (y_move rfl) rfl) (.p (.t (.t (.t (.t .h)))) .nil) ?_
    refine anyT_takeF (i := 2) rfl (by kernel_rfl) (by kernel_rfl) (by kernel_rfl) (by kernel_rfl) (Yq.of (v := .agg #[.int .i64 (((m : Nat) : Int)), .slice a1 n1 c1, .slice a2 n2 c2, .slice a3 n3 c3]) (y_loadN (vs := [.int .i64 (((m : Nat) : Int)), .slice a1 n1 c1, .slice a2 n2 c2, .slice a3 n3 c3]) h4_13 Try.isAgg84 Try.sizeOf84 (ownN .h rfl)) rfl) (.p (.t (.t (.t (.t .h)))) .nil) ?_
    refine anyT_takeF (i := 4) rfl (by kernel_rfl) (by kernel_rfl) (by kernel_rfl) (by kernel_rfl) (Yq.of (v := .slice a_3 (2 ^ K) c_4) (y_move h14_13) rfl) (.p (.t (.t (.t (.t .h)))) .nil) ?_
    refine anyT_takeF (i := 5) rfl (by kernel_rfl) (by kernel_rfl) (by kernel_rfl) (by kernel_rfl) (Yq.of (v := .int .i64 (((a : Nat) : Int))) (y_move rfl) rfl) (.p (.t (.t (.t (.t .h)))) .nil) ?_
    refine anyT_take (i := 3) rfl (by kernel_rfl) (by kernel_rfl) (by kernel_rfl) (by kernel_rfl) (Yq.of (v := .agg #[.bool (((fdT (chkB ((m : Nat) : Int) l1 l2 l3) l2 l3 (bnet true K (mpD (chkB ((m : Nat) : Int) l1 l2 l3) ((m : Nat) : Int) l1 S m li nb (2 ^ K)) (rnd ((2 ^ K : Nat) : Int))) a).2).dead), .int .i64 ((((fdT (chkB ((m : Nat) : Int) l1 l2 l3) l2 l3 (bnet true K (mpD (chkB ((m : Nat) : Int) l1 l2 l3) ((m : Nat) : Int) l1 S m li nb (2 ^ K)) (rnd ((2 ^ K : Nat) : Int))) a).2).key).toInt), .int .i64 ((((fdT (chkB ((m : Nat) : Int) l1 l2 l3) l2 l3 (bnet true K (mpD (chkB ((m : Nat) : Int) l1 l2 l3) ((m : Nat) : Int) l1 S m li nb (2 ^ K)) (rnd ((2 ^ K : Nat) : Int))) a).2).value).toInt), .int .i64 ((((fdT (chkB ((m : Nat) : Int) l1 l2 l3) l2 l3 (bnet true K (mpD (chkB ((m : Nat) : Int) l1 l2 l3) ((m : Nat) : Int) l1 S m li nb (2 ^ K)) (rnd ((2 ^ K : Nat) : Int))) a).2).seq).toInt)]) (y_loadN (vs := [.bool (((fdT (chkB ((m : Nat) : Int) l1 l2 l3) l2 l3 (bnet true K (mpD (chkB ((m : Nat) : Int) l1 l2 l3) ((m : Nat) : Int) l1 S m li nb (2 ^ K)) (rnd ((2 ^ K : Nat) : Int))) a).2).dead), .int .i64 ((((fdT (chkB ((m : Nat) : Int) l1 l2 l3) l2 l3 (bnet true K (mpD (chkB ((m : Nat) : Int) l1 l2 l3) ((m : Nat) : Int) l1 S m li nb (2 ^ K)) (rnd ((2 ^ K : Nat) : Int))) a).2).key).toInt), .int .i64 ((((fdT (chkB ((m : Nat) : Int) l1 l2 l3) l2 l3 (bnet true K (mpD (chkB ((m : Nat) : Int) l1 l2 l3) ((m : Nat) : Int) l1 S m li nb (2 ^ K)) (rnd ((2 ^ K : Nat) : Int))) a).2).value).toInt), .int .i64 ((((fdT (chkB ((m : Nat) : Int) l1 l2 l3) l2 l3 (bnet true K (mpD (chkB ((m : Nat) : Int) l1 l2 l3) ((m : Nat) : Int) l1 S m li nb (2 ^ K)) (rnd ((2 ^ K : Nat) : Int))) a).2).seq).toInt)]) h16_13 Try.isAgg23 Try.sizeOf23 (ownN .h rfl)) rfl) (.p .h (.p .h (.p (.t (.t .h)) .nil))) (.p (.t (.t (.t (.t .h)))) .nil) ?_
    refine anyT_take (i := 6) rfl (by kernel_rfl) (by kernel_rfl) (by kernel_rfl) (by kernel_rfl) (Yq.of (v := .pointer (some ⟨aB a_3, aO a_3 + a * 1, none⟩)) (y_idx (o := a * 1) rfl rfl Try.underlying80 Try.sizeOf69 (oslR (.t .h)) ((fl_len slhV_len _).trans (by first | omega | (simp only [List.length_set, List.length_take, List.length_drop]; done) | (simp only [List.length_set, List.length_take, List.length_drop]; omega))) (by decide) (by omega) (by omega) (by omega)) rfl) (.p .h (.p .h (.p (.t (.t .h)) .nil))) (.p (.t (.t (.t (.t .h)))) .nil) ?_
    refine anyT_take (i := 7) rfl (by kernel_rfl) (by kernel_rfl) (by kernel_rfl) (by kernel_rfl) (Yq.of (v := .slice ((hd1.getD a default).a) ((hd1.getD a default).n) ((hd1.getD a default).c)) (y_load1 (v := .slice ((hd1.getD a default).a) ((hd1.getD a default).n) ((hd1.getD a default).c)) rfl Try.isAgg69 (rd1 (k := a * 1) (oslR (.t .h)) (fl_get0 slhV_len hd1 a (by first | omega | (simp only [List.length_set, List.length_take, List.length_drop]; done) | (simp only [List.length_set, List.length_take, List.length_drop]; omega)) rfl))) rfl) (.p .h (.p .h (.p (.t (.t .h)) .nil))) (.p (.t (.t (.t (.t .h)))) .nil) ?_
    have hblk := getD_len hI2 (show a < 2 ^ K by omega)
    have hhn := HN1 a (by omega)
    refine anyT_all (rs := [8]) (by kernel_rfl) (by simp) ?_
    intro i hi; obtain rfl := List.mem_singleton.1 hi; clear hi
    refine opS_0 rfl rfl ?_
    refine e_call (f := 210) (args := #[.agg #[.int .i64 (((m : Nat) : Int)), .slice a1 n1 c1, .slice a2 n2 c2, .slice a3 n3 c3], .agg #[.bool (((fdT (chkB ((m : Nat) : Int) l1 l2 l3) l2 l3 (bnet true K (mpD (chkB ((m : Nat) : Int) l1 l2 l3) ((m : Nat) : Int) l1 S m li nb (2 ^ K)) (rnd ((2 ^ K : Nat) : Int))) a).2).dead), .int .i64 ((((fdT (chkB ((m : Nat) : Int) l1 l2 l3) l2 l3 (bnet true K (mpD (chkB ((m : Nat) : Int) l1 l2 l3) ((m : Nat) : Int) l1 S m li nb (2 ^ K)) (rnd ((2 ^ K : Nat) : Int))) a).2).key).toInt), .int .i64 ((((fdT (chkB ((m : Nat) : Int) l1 l2 l3) l2 l3 (bnet true K (mpD (chkB ((m : Nat) : Int) l1 l2 l3) ((m : Nat) : Int) l1 S m li nb (2 ^ K)) (rnd ((2 ^ K : Nat) : Int))) a).2).value).toInt), .int .i64 ((((fdT (chkB ((m : Nat) : Int) l1 l2 l3) l2 l3 (bnet true K (mpD (chkB ((m : Nat) : Int) l1 l2 l3) ((m : Nat) : Int) l1 S m li nb (2 ^ K)) (rnd ((2 ^ K : Nat) : Int))) a).2).seq).toInt)], .slice ((hd1.getD a default).a) ((hd1.getD a default).n) ((hd1.getD a default).c)]) (X := Option Addr × Nat) (A := []) (M := [cel b_12 23 [.bool (((fdT (chkB ((m : Nat) : Int) l1 l2 l3) l2 l3 (bnet true K (mpD (chkB ((m : Nat) : Int) l1 l2 l3) ((m : Nat) : Int) l1 S m li nb (2 ^ K)) (rnd ((2 ^ K : Nat) : Int))) a).2).dead), .int .i64 ((((fdT (chkB ((m : Nat) : Int) l1 l2 l3) l2 l3 (bnet true K (mpD (chkB ((m : Nat) : Int) l1 l2 l3) ((m : Nat) : Int) l1 S m li nb (2 ^ K)) (rnd ((2 ^ K : Nat) : Int))) a).2).key).toInt), .int .i64 ((((fdT (chkB ((m : Nat) : Int) l1 l2 l3) l2 l3 (bnet true K (mpD (chkB ((m : Nat) : Int) l1 l2 l3) ((m : Nat) : Int) l1 S m li nb (2 ^ K)) (rnd ((2 ^ K : Nat) : Int))) a).2).value).toInt), .int .i64 ((((fdT (chkB ((m : Nat) : Int) l1 l2 l3) l2 l3 (bnet true K (mpD (chkB ((m : Nat) : Int) l1 l2 l3) ((m : Nat) : Int) l1 S m li nb (2 ^ K)) (rnd ((2 ^ K : Nat) : Int))) a).2).seq).toInt)], osl a_3 c_4 (2 ^ K) 1 69 (hd1.flatMap slhV), fam hd1 ((fdT (chkB ((m : Nat) : Int) l1 l2 l3) l2 l3 (bnet true K (mpD (chkB ((m : Nat) : Int) l1 l2 l3) ((m : Nat) : Int) l1 S m li nb (2 ^ K)) (rnd ((2 ^ K : Nat) : Int))) a).1), cel b_2 53 [.int .i64 (((R : Nat) : Int)), .int .i64 (((m : Nat) : Int)), .int .i64 (((S : Nat) : Int)), .int .i64 (W)], cel b_1 84 [.int .i64 (((m : Nat) : Int)), .slice a1 n1 c1, .slice a2 n2 c2, .slice a3 n3 c3]]) (V := fun x => .tuple #[slV (msort false (stepO (chkB ((m : Nat) : Int) l1 l2 l3) l2 l3 ((fdT (chkB ((m : Nat) : Int) l1 l2 l3) l2 l3 (bnet true K (mpD (chkB ((m : Nat) : Int) l1 l2 l3) ((m : Nat) : Int) l1 S m li nb (2 ^ K)) (rnd ((2 ^ K : Nat) : Int))) a).2) ((fdT (chkB ((m : Nat) : Int) l1 l2 l3) l2 l3 (bnet true K (mpD (chkB ((m : Nat) : Int) l1 l2 l3) ((m : Nat) : Int) l1 S m li nb (2 ^ K)) (rnd ((2 ^ K : Nat) : Int))) a).1.getD a []))) x, .agg #[.bool ((stepC (chkB ((m : Nat) : Int) l1 l2 l3) l2 l3 ((fdT (chkB ((m : Nat) : Int) l1 l2 l3) l2 l3 (bnet true K (mpD (chkB ((m : Nat) : Int) l1 l2 l3) ((m : Nat) : Int) l1 S m li nb (2 ^ K)) (rnd ((2 ^ K : Nat) : Int))) a).2) ((fdT (chkB ((m : Nat) : Int) l1 l2 l3) l2 l3 (bnet true K (mpD (chkB ((m : Nat) : Int) l1 l2 l3) ((m : Nat) : Int) l1 S m li nb (2 ^ K)) (rnd ((2 ^ K : Nat) : Int))) a).1.getD a [])).dead), .int .i64 (((stepC (chkB ((m : Nat) : Int) l1 l2 l3) l2 l3 ((fdT (chkB ((m : Nat) : Int) l1 l2 l3) l2 l3 (bnet true K (mpD (chkB ((m : Nat) : Int) l1 l2 l3) ((m : Nat) : Int) l1 S m li nb (2 ^ K)) (rnd ((2 ^ K : Nat) : Int))) a).2) ((fdT (chkB ((m : Nat) : Int) l1 l2 l3) l2 l3 (bnet true K (mpD (chkB ((m : Nat) : Int) l1 l2 l3) ((m : Nat) : Int) l1 S m li nb (2 ^ K)) (rnd ((2 ^ K : Nat) : Int))) a).1.getD a [])).key).toInt), .int .i64 (((stepC (chkB ((m : Nat) : Int) l1 l2 l3) l2 l3 ((fdT (chkB ((m : Nat) : Int) l1 l2 l3) l2 l3 (bnet true K (mpD (chkB ((m : Nat) : Int) l1 l2 l3) ((m : Nat) : Int) l1 S m li nb (2 ^ K)) (rnd ((2 ^ K : Nat) : Int))) a).2) ((fdT (chkB ((m : Nat) : Int) l1 l2 l3) l2 l3 (bnet true K (mpD (chkB ((m : Nat) : Int) l1 l2 l3) ((m : Nat) : Int) l1 S m li nb (2 ^ K)) (rnd ((2 ^ K : Nat) : Int))) a).1.getD a [])).value).toInt), .int .i64 (((stepC (chkB ((m : Nat) : Int) l1 l2 l3) l2 l3 ((fdT (chkB ((m : Nat) : Int) l1 l2 l3) l2 l3 (bnet true K (mpD (chkB ((m : Nat) : Int) l1 l2 l3) ((m : Nat) : Int) l1 S m li nb (2 ^ K)) (rnd ((2 ^ K : Nat) : Int))) a).2) ((fdT (chkB ((m : Nat) : Int) l1 l2 l3) l2 l3 (bnet true K (mpD (chkB ((m : Nat) : Int) l1 l2 l3) ((m : Nat) : Int) l1 S m li nb (2 ^ K)) (rnd ((2 ^ K : Nat) : Int))) a).1.getD a [])).seq).toInt)]]) (A' := fun x => [slR recV 4 23 (msort false (stepO (chkB ((m : Nat) : Int) l1 l2 l3) l2 l3 ((fdT (chkB ((m : Nat) : Int) l1 l2 l3) l2 l3 (bnet true K (mpD (chkB ((m : Nat) : Int) l1 l2 l3) ((m : Nat) : Int) l1 S m li nb (2 ^ K)) (rnd ((2 ^ K : Nat) : Int))) a).2) ((fdT (chkB ((m : Nat) : Int) l1 l2 l3) l2 l3 (bnet true K (mpD (chkB ((m : Nat) : Int) l1 l2 l3) ((m : Nat) : Int) l1 S m li nb (2 ^ K)) (rnd ((2 ^ K : Nat) : Int))) a).1.getD a []))) x]) (C := fun _ => True) Try.call210 (ev3 rfl rfl rfl) (.p .h (.p .h (.p .h (.p .h (.p .h .nil))))) (fun w hs => folded_c ((m : Nat) : Int) a1 a2 a3 n1 c1 n2 c2 n3 c3 l1 l2 l3 ((fdT (chkB ((m : Nat) : Int) l1 l2 l3) l2 l3 (bnet true K (mpD (chkB ((m : Nat) : Int) l1 l2 l3) ((m : Nat) : Int) l1 S m li nb (2 ^ K)) (rnd ((2 ^ K : Nat) : Int))) a).2) ((hd1.getD a default).a) ((hd1.getD a default).n) ((hd1.getD a default).c) ((fdT (chkB ((m : Nat) : Int) l1 l2 l3) l2 l3 (bnet true K (mpD (chkB ((m : Nat) : Int) l1 l2 l3) ((m : Nat) : Int) l1 S m li nb (2 ^ K)) (rnd ((2 ^ K : Nat) : Int))) a).1.getD a []) w hn1 ((oldR hr1) w hs) (by omega) hn2 ((oldR hr2) w hs) (by omega) hn3 ((oldR hr3) w hs) (by omega) (hblk.trans (HN1 a (by omega)).symm) ((fam_rd (.t (.t .h)) (by omega)) w hs) (by omega)) ?_
    rintro ⟨a_15, c_16⟩ -
    refine ⟨.inr ⟨.p (.t .h) (.p (.t .h) (.p (.t (.t (.t .h))) .nil)), .p (.t (.t (.t (.t (.t .h))))) .nil⟩, ?_⟩
    refine anyT_takeF (i := 9) rfl (by kernel_rfl) (by kernel_rfl) (by kernel_rfl) (by kernel_rfl) (Yq.of (v := .tuple #[.slice a_15 ((msort false (stepO (chkB ((m : Nat) : Int) l1 l2 l3) l2 l3 ((fdT (chkB ((m : Nat) : Int) l1 l2 l3) l2 l3 (bnet true K (mpD (chkB ((m : Nat) : Int) l1 l2 l3) ((m : Nat) : Int) l1 S m li nb (2 ^ K)) (rnd ((2 ^ K : Nat) : Int))) a).2) ((fdT (chkB ((m : Nat) : Int) l1 l2 l3) l2 l3 (bnet true K (mpD (chkB ((m : Nat) : Int) l1 l2 l3) ((m : Nat) : Int) l1 S m li nb (2 ^ K)) (rnd ((2 ^ K : Nat) : Int))) a).1.getD a []))).length) c_16, .agg #[.bool ((stepC (chkB ((m : Nat) : Int) l1 l2 l3) l2 l3 ((fdT (chkB ((m : Nat) : Int) l1 l2 l3) l2 l3 (bnet true K (mpD (chkB ((m : Nat) : Int) l1 l2 l3) ((m : Nat) : Int) l1 S m li nb (2 ^ K)) (rnd ((2 ^ K : Nat) : Int))) a).2) ((fdT (chkB ((m : Nat) : Int) l1 l2 l3) l2 l3 (bnet true K (mpD (chkB ((m : Nat) : Int) l1 l2 l3) ((m : Nat) : Int) l1 S m li nb (2 ^ K)) (rnd ((2 ^ K : Nat) : Int))) a).1.getD a [])).dead), .int .i64 (((stepC (chkB ((m : Nat) : Int) l1 l2 l3) l2 l3 ((fdT (chkB ((m : Nat) : Int) l1 l2 l3) l2 l3 (bnet true K (mpD (chkB ((m : Nat) : Int) l1 l2 l3) ((m : Nat) : Int) l1 S m li nb (2 ^ K)) (rnd ((2 ^ K : Nat) : Int))) a).2) ((fdT (chkB ((m : Nat) : Int) l1 l2 l3) l2 l3 (bnet true K (mpD (chkB ((m : Nat) : Int) l1 l2 l3) ((m : Nat) : Int) l1 S m li nb (2 ^ K)) (rnd ((2 ^ K : Nat) : Int))) a).1.getD a [])).key).toInt), .int .i64 (((stepC (chkB ((m : Nat) : Int) l1 l2 l3) l2 l3 ((fdT (chkB ((m : Nat) : Int) l1 l2 l3) l2 l3 (bnet true K (mpD (chkB ((m : Nat) : Int) l1 l2 l3) ((m : Nat) : Int) l1 S m li nb (2 ^ K)) (rnd ((2 ^ K : Nat) : Int))) a).2) ((fdT (chkB ((m : Nat) : Int) l1 l2 l3) l2 l3 (bnet true K (mpD (chkB ((m : Nat) : Int) l1 l2 l3) ((m : Nat) : Int) l1 S m li nb (2 ^ K)) (rnd ((2 ^ K : Nat) : Int))) a).1.getD a [])).value).toInt), .int .i64 (((stepC (chkB ((m : Nat) : Int) l1 l2 l3) l2 l3 ((fdT (chkB ((m : Nat) : Int) l1 l2 l3) l2 l3 (bnet true K (mpD (chkB ((m : Nat) : Int) l1 l2 l3) ((m : Nat) : Int) l1 S m li nb (2 ^ K)) (rnd ((2 ^ K : Nat) : Int))) a).2) ((fdT (chkB ((m : Nat) : Int) l1 l2 l3) l2 l3 (bnet true K (mpD (chkB ((m : Nat) : Int) l1 l2 l3) ((m : Nat) : Int) l1 S m li nb (2 ^ K)) (rnd ((2 ^ K : Nat) : Int))) a).1.getD a [])).seq).toInt)]]) (y_move rfl) rfl) (.p (.t (.t (.t (.t (.t .h))))) .nil) ?_
    refine anyT_takeF (i := 10) rfl (by kernel_rfl) (by kernel_rfl) (by kernel_rfl) (by kernel_rfl) (Yq.of (v := .slice a_15 ((msort false (stepO (chkB ((m : Nat) : Int) l1 l2 l3) l2 l3 ((fdT (chkB ((m : Nat) : Int) l1 l2 l3) l2 l3 (bnet true K (mpD (chkB ((m : Nat) : Int) l1 l2 l3) ((m : Nat) : Int) l1 S m li nb (2 ^ K)) (rnd ((2 ^ K : Nat) : Int))) a).2) ((fdT (chkB ((m : Nat) : Int) l1 l2 l3) l2 l3 (bnet true K (mpD (chkB ((m : Nat) : Int) l1 l2 l3) ((m : Nat) : Int) l1 S m li nb (2 ^ K)) (rnd ((2 ^ K : Nat) : Int))) a).1.getD a []))).length) c_16) (y_extract (v := .slice a_15 ((msort false (stepO (chkB ((m : Nat) : Int) l1 l2 l3) l2 l3 ((fdT (chkB ((m : Nat) : Int) l1 l2 l3) l2 l3 (bnet true K (mpD (chkB ((m : Nat) : Int) l1 l2 l3) ((m : Nat) : Int) l1 S m li nb (2 ^ K)) (rnd ((2 ^ K : Nat) : Int))) a).2) ((fdT (chkB ((m : Nat) : Int) l1 l2 l3) l2 l3 (bnet true K (mpD (chkB ((m : Nat) : Int) l1 l2 l3) ((m : Nat) : Int) l1 S m li nb (2 ^ K)) (rnd ((2 ^ K : Nat) : Int))) a).1.getD a []))).length) c_16) rfl rfl) rfl) (.p (.t (.t (.t (.t (.t .h))))) .nil) ?_
    refine anyT_takeF (i := 11) rfl (by kernel_rfl) (by kernel_rfl) (by kernel_rfl) (by kernel_rfl) (Yq.of (v := .agg #[.bool ((stepC (chkB ((m : Nat) : Int) l1 l2 l3) l2 l3 ((fdT (chkB ((m : Nat) : Int) l1 l2 l3) l2 l3 (bnet true K (mpD (chkB ((m : Nat) : Int) l1 l2 l3) ((m : Nat) : Int) l1 S m li nb (2 ^ K)) (rnd ((2 ^ K : Nat) : Int))) a).2) ((fdT (chkB ((m : Nat) : Int) l1 l2 l3) l2 l3 (bnet true K (mpD (chkB ((m : Nat) : Int) l1 l2 l3) ((m : Nat) : Int) l1 S m li nb (2 ^ K)) (rnd ((2 ^ K : Nat) : Int))) a).1.getD a [])).dead), .int .i64 (((stepC (chkB ((m : Nat) : Int) l1 l2 l3) l2 l3 ((fdT (chkB ((m : Nat) : Int) l1 l2 l3) l2 l3 (bnet true K (mpD (chkB ((m : Nat) : Int) l1 l2 l3) ((m : Nat) : Int) l1 S m li nb (2 ^ K)) (rnd ((2 ^ K : Nat) : Int))) a).2) ((fdT (chkB ((m : Nat) : Int) l1 l2 l3) l2 l3 (bnet true K (mpD (chkB ((m : Nat) : Int) l1 l2 l3) ((m : Nat) : Int) l1 S m li nb (2 ^ K)) (rnd ((2 ^ K : Nat) : Int))) a).1.getD a [])).key).toInt), .int .i64 (((stepC (chkB ((m : Nat) : Int) l1 l2 l3) l2 l3 ((fdT (chkB ((m : Nat) : Int) l1 l2 l3) l2 l3 (bnet true K (mpD (chkB ((m : Nat) : Int) l1 l2 l3) ((m : Nat) : Int) l1 S m li nb (2 ^ K)) (rnd ((2 ^ K : Nat) : Int))) a).2) ((fdT (chkB ((m : Nat) : Int) l1 l2 l3) l2 l3 (bnet true K (mpD (chkB ((m : Nat) : Int) l1 l2 l3) ((m : Nat) : Int) l1 S m li nb (2 ^ K)) (rnd ((2 ^ K : Nat) : Int))) a).1.getD a [])).value).toInt), .int .i64 (((stepC (chkB ((m : Nat) : Int) l1 l2 l3) l2 l3 ((fdT (chkB ((m : Nat) : Int) l1 l2 l3) l2 l3 (bnet true K (mpD (chkB ((m : Nat) : Int) l1 l2 l3) ((m : Nat) : Int) l1 S m li nb (2 ^ K)) (rnd ((2 ^ K : Nat) : Int))) a).2) ((fdT (chkB ((m : Nat) : Int) l1 l2 l3) l2 l3 (bnet true K (mpD (chkB ((m : Nat) : Int) l1 l2 l3) ((m : Nat) : Int) l1 S m li nb (2 ^ K)) (rnd ((2 ^ K : Nat) : Int))) a).1.getD a [])).seq).toInt)]) (y_extract (v := .agg #[.bool ((stepC (chkB ((m : Nat) : Int) l1 l2 l3) l2 l3 ((fdT (chkB ((m : Nat) : Int) l1 l2 l3) l2 l3 (bnet true K (mpD (chkB ((m : Nat) : Int) l1 l2 l3) ((m : Nat) : Int) l1 S m li nb (2 ^ K)) (rnd ((2 ^ K : Nat) : Int))) a).2) ((fdT (chkB ((m : Nat) : Int) l1 l2 l3) l2 l3 (bnet true K (mpD (chkB ((m : Nat) : Int) l1 l2 l3) ((m : Nat) : Int) l1 S m li nb (2 ^ K)) (rnd ((2 ^ K : Nat) : Int))) a).1.getD a [])).dead), .int .i64 (((stepC (chkB ((m : Nat) : Int) l1 l2 l3) l2 l3 ((fdT (chkB ((m : Nat) : Int) l1 l2 l3) l2 l3 (bnet true K (mpD (chkB ((m : Nat) : Int) l1 l2 l3) ((m : Nat) : Int) l1 S m li nb (2 ^ K)) (rnd ((2 ^ K : Nat) : Int))) a).2) ((fdT (chkB ((m : Nat) : Int) l1 l2 l3) l2 l3 (bnet true K (mpD (chkB ((m : Nat) : Int) l1 l2 l3) ((m : Nat) : Int) l1 S m li nb (2 ^ K)) (rnd ((2 ^ K : Nat) : Int))) a).1.getD a [])).key).toInt), .int .i64 (((stepC (chkB ((m : Nat) : Int) l1 l2 l3) l2 l3 ((fdT (chkB ((m : Nat) : Int) l1 l2 l3) l2 l3 (bnet true K (mpD (chkB ((m : Nat) : Int) l1 l2 l3) ((m : Nat) : Int) l1 S m li nb (2 ^ K)) (rnd ((2 ^ K : Nat) : Int))) a).2) ((fdT (chkB ((m : Nat) : Int) l1 l2 l3) l2 l3 (bnet true K (mpD (chkB ((m : Nat) : Int) l1 l2 l3) ((m : Nat) : Int) l1 S m li nb (2 ^ K)) (rnd ((2 ^ K : Nat) : Int))) a).1.getD a [])).value).toInt), .int .i64 (((stepC (chkB ((m : Nat) : Int) l1 l2 l3) l2 l3 ((fdT (chkB ((m : Nat) : Int) l1 l2 l3) l2 l3 (bnet true K (mpD (chkB ((m : Nat) : Int) l1 l2 l3) ((m : Nat) : Int) l1 S m li nb (2 ^ K)) (rnd ((2 ^ K : Nat) : Int))) a).2) ((fdT (chkB ((m : Nat) : Int) l1 l2 l3) l2 l3 (bnet true K (mpD (chkB ((m : Nat) : Int) l1 l2 l3) ((m : Nat) : Int) l1 S m li nb (2 ^ K)) (rnd ((2 ^ K : Nat) : Int))) a).1.getD a [])).seq).toInt)]) rfl rfl) rfl) (.p (.t (.t (.t (.t (.t .h))))) .nil) ?_
    refine anyT_take (i := 12) rfl (by kernel_rfl) (by kernel_rfl) (by kernel_rfl) (by kernel_rfl) (Yq.of (v := .pointer (some ⟨aB a_3, aO a_3 + a * 1, none⟩)) (y_idx (o := a * 1) rfl rfl Try.underlying80 Try.sizeOf69 (oslR (.t .h)) ((fl_len slhV_len _).trans (by first | omega | (simp only [List.length_set, List.length_take, List.length_drop]; done) | (simp only [List.length_set, List.length_take, List.length_drop]; omega))) (by decide) (by omega) (by omega) (by omega)) rfl) (.p (.t .h) (.p (.t .h) (.p (.t (.t (.t .h))) .nil))) (.p (.t (.t (.t (.t (.t .h))))) .nil) ?_
    refine anyT_all (rs := [13]) (by kernel_rfl) (by simp) ?_
    intro i hi; obtain rfl := List.mem_singleton.1 hi; clear hi
    refine opS_0 rfl rfl ?_
    refine OpE.ent (fam_set1 (SlH.mk a_15 ((msort false (stepO (chkB ((m : Nat) : Int) l1 l2 l3) l2 l3 ((fdT (chkB ((m : Nat) : Int) l1 l2 l3) l2 l3 (bnet true K (mpD (chkB ((m : Nat) : Int) l1 l2 l3) ((m : Nat) : Int) l1 S m li nb (2 ^ K)) (rnd ((2 ^ K : Nat) : Int))) a).2) ((fdT (chkB ((m : Nat) : Int) l1 l2 l3) l2 l3 (bnet true K (mpD (chkB ((m : Nat) : Int) l1 l2 l3) ((m : Nat) : Int) l1 S m li nb (2 ^ K)) (rnd ((2 ^ K : Nat) : Int))) a).1.getD a []))).length) c_16) .h (.t (.t .h)) (i := a) (by omega) (by omega)) ?_
    refine e_storeL (enc := slhV) (xs := hd1) (y := (SlH.mk a_15 ((msort false (stepO (chkB ((m : Nat) : Int) l1 l2 l3) l2 l3 ((fdT (chkB ((m : Nat) : Int) l1 l2 l3) l2 l3 (bnet true K (mpD (chkB ((m : Nat) : Int) l1 l2 l3) ((m : Nat) : Int) l1 S m li nb (2 ^ K)) (rnd ((2 ^ K : Nat) : Int))) a).2) ((fdT (chkB ((m : Nat) : Int) l1 l2 l3) l2 l3 (bnet true K (mpD (chkB ((m : Nat) : Int) l1 l2 l3) ((m : Nat) : Int) l1 S m li nb (2 ^ K)) (rnd ((2 ^ K : Nat) : Int))) a).1.getD a []))).length) c_16)) slhV_len slhV_one (by decide) rfl rfl rfl Try.sizeOf69 (.t (.t .h)) (by (try simp only [List.length_set]); omega) ?_
    refine ⟨.inl ⟨by simp, .p (.t (.t (.t (.t .h)))) .nil⟩, ?_⟩
    refine anyT_all (rs := [14]) (by kernel_rfl) (by simp) ?_
    intro i hi; obtain rfl := List.mem_singleton.1 hi; clear hi
    refine opS_0 rfl rfl ?_
    refine e_store (vs := [.bool ((stepC (chkB ((m : Nat) : Int) l1 l2 l3) l2 l3 ((fdT (chkB ((m : Nat) : Int) l1 l2 l3) l2 l3 (bnet true K (mpD (chkB ((m : Nat) : Int) l1 l2 l3) ((m : Nat) : Int) l1 S m li nb (2 ^ K)) (rnd ((2 ^ K : Nat) : Int))) a).2) ((fdT (chkB ((m : Nat) : Int) l1 l2 l3) l2 l3 (bnet true K (mpD (chkB ((m : Nat) : Int) l1 l2 l3) ((m : Nat) : Int) l1 S m li nb (2 ^ K)) (rnd ((2 ^ K : Nat) : Int))) a).1.getD a [])).dead), .int .i64 (((stepC (chkB ((m : Nat) : Int) l1 l2 l3) l2 l3 ((fdT (chkB ((m : Nat) : Int) l1 l2 l3) l2 l3 (bnet true K (mpD (chkB ((m : Nat) : Int) l1 l2 l3) ((m : Nat) : Int) l1 S m li nb (2 ^ K)) (rnd ((2 ^ K : Nat) : Int))) a).2) ((fdT (chkB ((m : Nat) : Int) l1 l2 l3) l2 l3 (bnet true K (mpD (chkB ((m : Nat) : Int) l1 l2 l3) ((m : Nat) : Int) l1 S m li nb (2 ^ K)) (rnd ((2 ^ K : Nat) : Int))) a).1.getD a [])).key).toInt), .int .i64 (((stepC (chkB ((m : Nat) : Int) l1 l2 l3) l2 l3 ((fdT (chkB ((m : Nat) : Int) l1 l2 l3) l2 l3 (bnet true K (mpD (chkB ((m : Nat) : Int) l1 l2 l3) ((m : Nat) : Int) l1 S m li nb (2 ^ K)) (rnd ((2 ^ K : Nat) : Int))) a).2) ((fdT (chkB ((m : Nat) : Int) l1 l2 l3) l2 l3 (bnet true K (mpD (chkB ((m : Nat) : Int) l1 l2 l3) ((m : Nat) : Int) l1 S m li nb (2 ^ K)) (rnd ((2 ^ K : Nat) : Int))) a).1.getD a [])).value).toInt), .int .i64 (((stepC (chkB ((m : Nat) : Int) l1 l2 l3) l2 l3 ((fdT (chkB ((m : Nat) : Int) l1 l2 l3) l2 l3 (bnet true K (mpD (chkB ((m : Nat) : Int) l1 l2 l3) ((m : Nat) : Int) l1 S m li nb (2 ^ K)) (rnd ((2 ^ K : Nat) : Int))) a).2) ((fdT (chkB ((m : Nat) : Int) l1 l2 l3) l2 l3 (bnet true K (mpD (chkB ((m : Nat) : Int) l1 l2 l3) ((m : Nat) : Int) l1 S m li nb (2 ^ K)) (rnd ((2 ^ K : Nat) : Int))) a).1.getD a [])).seq).toInt)]) (l' := [.bool ((stepC (chkB ((m : Nat) : Int) l1 l2 l3) l2 l3 ((fdT (chkB ((m : Nat) : Int) l1 l2 l3) l2 l3 (bnet true K (mpD (chkB ((m : Nat) : Int) l1 l2 l3) ((m : Nat) : Int) l1 S m li nb (2 ^ K)) (rnd ((2 ^ K : Nat) : Int))) a).2) ((fdT (chkB ((m : Nat) : Int) l1 l2 l3) l2 l3 (bnet true K (mpD (chkB ((m : Nat) : Int) l1 l2 l3) ((m : Nat) : Int) l1 S m li nb (2 ^ K)) (rnd ((2 ^ K : Nat) : Int))) a).1.getD a [])).dead), .int .i64 (((stepC (chkB ((m : Nat) : Int) l1 l2 l3) l2 l3 ((fdT (chkB ((m : Nat) : Int) l1 l2 l3) l2 l3 (bnet true K (mpD (chkB ((m : Nat) : Int) l1 l2 l3) ((m : Nat) : Int) l1 S m li nb (2 ^ K)) (rnd ((2 ^ K : Nat) : Int))) a).2) ((fdT (chkB ((m : Nat) : Int) l1 l2 l3) l2 l3 (bnet true K (mpD (chkB ((m : Nat) : Int) l1 l2 l3) ((m : Nat) : Int) l1 S m li nb (2 ^ K)) (rnd ((2 ^ K : Nat) : Int))) a).1.getD a [])).key).toInt), .int .i64 (((stepC (chkB ((m : Nat) : Int) l1 l2 l3) l2 l3 ((fdT (chkB ((m : Nat) : Int) l1 l2 l3) l2 l3 (bnet true K (mpD (chkB ((m : Nat) : Int) l1 l2 l3) ((m : Nat) : Int) l1 S m li nb (2 ^ K)) (rnd ((2 ^ K : Nat) : Int))) a).2) ((fdT (chkB ((m : Nat) : Int) l1 l2 l3) l2 l3 (bnet true K (mpD (chkB ((m : Nat) : Int) l1 l2 l3) ((m : Nat) : Int) l1 S m li nb (2 ^ K)) (rnd ((2 ^ K : Nat) : Int))) a).1.getD a [])).value).toInt), .int .i64 (((stepC (chkB ((m : Nat) : Int) l1 l2 l3) l2 l3 ((fdT (chkB ((m : Nat) : Int) l1 l2 l3) l2 l3 (bnet true K (mpD (chkB ((m : Nat) : Int) l1 l2 l3) ((m : Nat) : Int) l1 S m li nb (2 ^ K)) (rnd ((2 ^ K : Nat) : Int))) a).2) ((fdT (chkB ((m : Nat) : Int) l1 l2 l3) l2 l3 (bnet true K (mpD (chkB ((m : Nat) : Int) l1 l2 l3) ((m : Nat) : Int) l1 S m li nb (2 ^ K)) (rnd ((2 ^ K : Nat) : Int))) a).1.getD a [])).seq).toInt)]) h16_13 rfl rfl rfl Try.sizeOf23 (.t (.t .h)) (Nat.le_of_ble_eq_true rfl) rfl ?_
    refine ⟨.inl ⟨by simp, .p (.t (.t (.t (.t .h)))) .nil⟩, ?_⟩
    refine anyT_done (by kernel_rfl) ?_
    refine blockS_n ?_
    refine thenS_n ?_
    refine wpS_region ?_
    refine s_y (v := .int .i64 ((((a + 1) : Nat) : Int))) (y_add (a := ((a : Nat) : Int)) (b := 1) (c := (((a + 1) : Nat) : Int)) h69_13 rfl (wI (by omega) (by omega) (by omega))) rfl ?_
    refine s_y (v := .int .i64 ((((a + 1) : Nat) : Int))) (y_move rfl) rfl ?_
    refine wpL_nil ?_
    refine thenS_n ?_
    exact ⟨_, by omega, ⟨(a + 1), (hd1.set a (SlH.mk a_15 ((msort false (stepO (chkB ((m : Nat) : Int) l1 l2 l3) l2 l3 ((fdT (chkB ((m : Nat) : Int) l1 l2 l3) l2 l3 (bnet true K (mpD (chkB ((m : Nat) : Int) l1 l2 l3) ((m : Nat) : Int) l1 S m li nb (2 ^ K)) (rnd ((2 ^ K : Nat) : Int))) a).2) ((fdT (chkB ((m : Nat) : Int) l1 l2 l3) l2 l3 (bnet true K (mpD (chkB ((m : Nat) : Int) l1 l2 l3) ((m : Nat) : Int) l1 S m li nb (2 ^ K)) (rnd ((2 ^ K : Nat) : Int))) a).1.getD a []))).length) c_16)), rfl, by omega, (by rw [List.length_set]; assumption), (hn_set1 (by assumption) (by omega) HN1 (by show (msort false _).length = S; rw [msort_len, stepO_len hck]; exact hblk)), rfl, h3_13, h4_13, h13_13, h14_13, h16_13, h68_13, rfl, .p .h (.p .h (.p .h (.p .h (.p .h .nil))))⟩⟩
   ·
    have p14 := of_decide_eq_false b14
    refine wpS_exit ?_
    refine thenS_x ?_
    refine thenS_x ?_
    refine blockS_h ?_
    refine thenS_n ?_
    refine wpS_seq ?_
    refine wpS_seq ?_
    refine wpS_region ?_
    refine s_y (v := .int .i64 (((t : Nat) : Int))) (y_move h3_13) rfl ?_
    refine s_y (v := .int .i64 ((((t - 2) : Nat) : Int))) (y_sub (a := ((t : Nat) : Int)) (b := 2) (c := (((t - 2) : Nat) : Int)) rfl rfl (wI (by omega) (by omega) (by omega))) rfl ?_
    refine s_y (v := .int .i64 ((((rnd ((((2 ^ K) : Nat) : Int))) : Nat) : Int))) (y_move h13_13) rfl ?_
    refine s_y (v := .int .i64 (((((t - 2) - (rnd ((((2 ^ K) : Nat) : Int)))) : Nat) : Int))) (y_sub (a := (((t - 2) : Nat) : Int)) (b := (((rnd ((((2 ^ K) : Nat) : Int))) : Nat) : Int)) (c := ((((t - 2) - (rnd ((((2 ^ K) : Nat) : Int)))) : Nat) : Int)) rfl rfl (wI (by omega) (by omega) (by omega))) rfl ?_
    refine s_y (v := .int .i64 0) (y_move rfl) rfl ?_
    refine wpL_nil ?_
    refine thenS_n ?_
    refine wpS_block ?_
    have hae : a = 2 ^ K := by omega
    subst hae
    refine wpS_loop (fun mez ds σ L => ∃ p : Nat, ∃ hd3 : List SlH, mez = (t - 2 - (rnd ((2 ^ K : Nat) : Int))) - p ∧ (p ≤ t - 2 - (rnd ((2 ^ K : Nat) : Int))) ∧ (hd3.length = 2 ^ K) ∧ (∀ i, i < 2 ^ K → (hd3.getD i default).n = S) ∧ ds = [] ∧ σ 14 = .slice a_3 (2 ^ K) c_4 ∧ σ 89 = .int .i64 (((((t - 2) - (rnd ((((2 ^ K) : Nat) : Int)))) : Nat) : Int)) ∧ σ 90 = .int .i64 (((p : Nat) : Int)) ∧ Ent L [osl a_3 c_4 (2 ^ K) 1 69 (hd3.flatMap slhV), fam hd3 (bnet false K (st2 (chkB ((m : Nat) : Int) l1 l2 l3) l2 l3 K (mpD (chkB ((m : Nat) : Int) l1 l2 l3) ((m : Nat) : Int) l1 S m li nb (2 ^ K))) p), cel b_2 53 [.int .i64 (((R : Nat) : Int)), .int .i64 (((m : Nat) : Int)), .int .i64 (((S : Nat) : Int)), .int .i64 (W)], cel b_1 84 [.int .i64 (((m : Nat) : Int)), .slice a1 n1 c1, .slice a2 n2 c2, .slice a3 n3 c3]]) (m0 := (t - 2 - (rnd ((2 ^ K : Nat) : Int))) - 0) ⟨0, hd1, rfl, by omega, (by assumption), (by assumption), rfl, h14_13, rfl, rfl, .p (.t .h) (.p (.t .h) (.p (.t .h) (.p (.t .h) .nil)))⟩ ?_
    rintro mez ds σ L ⟨p, hd3, hm_18, hf0_18, hf1_18, hf2_18, rfl, h14_18, h89_18, h90_18, hE_18⟩
    refine wpS_ent hE_18 ?_; clear hE_18
    have hbn := (hI.inv3 p (by omega)).1
    refine wpS_seq ?_
    refine wpS_region ?_
    refine s_y (v := .bool (decide (p < ((t - 2) - (rnd ((((2 ^ K) : Nat) : Int))))))) (y_lss (a := ((p : Nat) : Int)) (b := ((((t - 2) - (rnd ((((2 ^ K) : Nat) : Int)))) : Nat) : Int)) (c := decide (p < ((t - 2) - (rnd ((((2 ^ K) : Nat) : Int)))))) h90_18 h89_18 (decide_eq_decide.2 (by omega))) rfl ?_
    refine wpL_nil ?_
    refine thenS_n ?_
    refine wpS_seq ?_
    refine wpS_cond (t := decide (p < ((t - 2) - (rnd ((((2 ^ K) : Nat) : Int)))))) rfl (fun b19 => ?_) (fun b19 => ?_)
    ·
     have p19 := of_decide_eq_true b19
     refine wpS_skip ?_
     refine thenS_n ?_
     refine wpS_seq ?_
     refine wpS_block ?_
     refine wpS_seq ?_
     refine wpS_region ?_
     refine s_y (v := .int .i64 (((p : Nat) : Int))) (y_move h90_18) rfl ?_
     refine s_y (v := .int .i64 (((p : Nat) : Int))) (y_assign rfl) rfl ?_
     refine wpL_nil ?_
     refine thenS_n ?_
     refine wpS_region ?_
     refine s_y (v := .slice a_3 (2 ^ K) c_4) (y_move h14_18) rfl ?_
     refine s_y (v := .int .i64 (((p : Nat) : Int))) (y_move rfl) rfl ?_
     refine s_e rfl ?_
     refine e_call (f := 209) (args := #[.slice a_3 (2 ^ K) c_4, .int .i64 (((p : Nat) : Int)), .bool false]) (X := List SlH) (A := [osl a_3 c_4 (2 ^ K) 1 69 (hd3.flatMap slhV), fam hd3 (bnet false K (st2 (chkB ((m : Nat) : Int) l1 l2 l3) l2 l3 K (mpD (chkB ((m : Nat) : Int) l1 l2 l3) ((m : Nat) : Int) l1 S m li nb (2 ^ K))) p)]) (M := [cel b_2 53 [.int .i64 (((R : Nat) : Int)), .int .i64 (((m : Nat) : Int)), .int .i64 (((S : Nat) : Int)), .int .i64 (W)], cel b_1 84 [.int .i64 (((m : Nat) : Int)), .slice a1 n1 c1, .slice a2 n2 c2, .slice a3 n3 c3]]) (V := fun _ => .tuple #[]) (A' := fun x => [osl a_3 c_4 (2 ^ K) 1 69 (x.flatMap slhV), fam x (bcmp false K p (bnet false K (st2 (chkB ((m : Nat) : Int) l1 l2 l3) l2 l3 K (mpD (chkB ((m : Nat) : Int) l1 l2 l3) ((m : Nat) : Int) l1 S m li nb (2 ^ K))) p) (frs ((2 ^ K : Nat) : Int) ((p : Nat) : Int)).length)]) (C := fun x => x.length = 2 ^ K ∧ ∀ k, k < 2 ^ K → (x.getD k default).n = S) Try.call209 (ev3 rfl rfl rfl) (.p .h (.p .h (.p .h (.p .h .nil)))) (fun w hs => (round_cc a_3 c_4 hd3 (bnet false K (st2 (chkB ((m : Nat) : Int) l1 l2 l3) l2 l3 K (mpD (chkB ((m : Nat) : Int) l1 l2 l3) ((m : Nat) : Int) l1 S m li nb (2 ^ K))) p) K p S false w (by omega) (by omega) (by assumption) (by assumption) (by first | exact hI.inv1 _ (by omega) | exact hI.inv3 _ (by omega)) (by omega) (SH.lend hs)).mono (fun e w2 hx => hx.elim fun x hx => ⟨x, hx.1, hx.2.1, hx.2.2⟩)) ?_
     rintro h_20 ⟨hR21l, hR21n⟩
     replace hR21l : h_20.length = 2 ^ K := hR21l
     replace hR21n : ∀ k, k < 2 ^ K → (h_20.getD k default).n = S := hR21n
     refine wpL_nil ?_
     refine blockS_n ?_
     refine thenS_n ?_
     refine wpS_region ?_
     refine s_y (v := .int .i64 ((((p + 1) : Nat) : Int))) (y_add (a := ((p : Nat) : Int)) (b := 1) (c := (((p + 1) : Nat) : Int)) h90_18 rfl (wI (by omega) (by omega) (by omega))) rfl ?_
     refine s_y (v := .int .i64 ((((p + 1) : Nat) : Int))) (y_move rfl) rfl ?_
     refine wpL_nil ?_
     refine thenS_n ?_
     rw [bnet_next (by omega) (by omega)]
     exact ⟨_, by omega, ⟨(p + 1), h_20, rfl, by omega, (by assumption), (by assumption), rfl, h14_18, h89_18, rfl, .p .h (.p .h (.p .h (.p .h .nil)))⟩⟩
    ·
     have p19 := of_decide_eq_false b19
     refine wpS_exit ?_
     refine thenS_x ?_
     refine thenS_x ?_
     refine blockS_h ?_
     refine thenS_n ?_
     refine wpS_seq ?_
     refine wpS_region ?_
     refine s_y (v := .slice a_3 (2 ^ K) c_4) (y_move h14_18) rfl ?_
     refine s_y (v := .slice a_3 (2 ^ K) c_4) (y_assign rfl) rfl ?_
     refine s_y (v := .int .i64 0) (y_assign rfl) rfl ?_
     refine wpL_nil ?_
     refine thenS_n ?_
     refine wpS_ret ?_
     refine fin2 (M := [osl a_3 c_4 (2 ^ K) 1 69 (hd3.flatMap slhV), fam hd3 (bnet false K (st2 (chkB ((m : Nat) : Int) l1 l2 l3) l2 l3 K (mpD (chkB ((m : Nat) : Int) l1 l2 l3) ((m : Nat) : Int) l1 S m li nb (2 ^ K))) p)]) (.inr rfl) (.p .h (.p .h .nil)) Try.results136 (rvT (v := .slice a_3 (2 ^ K) c_4) rfl) (rvT (v := .int .i64 0) rfl) ?_
     have e2 := stg_hi (b := (chkB ((m : Nat) : Int) l1 l2 l3)) (f := l2) (g := l3) (K := K) (M := (mpD (chkB ((m : Nat) : Int) l1 l2 l3) ((m : Nat) : Int) l1 S m li nb (2 ^ K))) (t := t) (q := p) (by assumption) (by omega)
     exact fun w' hs => ⟨((a_3, c_4), hd3), rfl, by rw [← e2]; exact hs, by assumption, by assumption⟩
theorem runP_c (a1 a2 a3 : Option Addr) (n1 c1 n2 c2 n3 c3 : Nat) (l1 l2 l3 : List Opc) (R m S : Nat) (W : Int) (nb K : Nat) (ga : Option Addr) (gc : Nat) (li : List Pr) (w : World) (hj : JP R m S W nb K) (hn1 : l1.length = n1) (hr1 : Rds w a1 (l1.flatMap opcV)) (hb1 : n1 ≤ 1000000) (hn2 : l2.length = n2) (hr2 : Rds w a2 (l2.flatMap opcV)) (hb2 : n2 ≤ 1000000) (hn3 : l3.length = n3) (hr3 : Rds w a3 (l3.flatMap opcV)) (hb3 : n3 ≤ 1000000) (hck : (chkB ((m : Nat) : Int) l1 l2 l3) = true) (hl : li.length = R) (hr : Rds w ga (li.flatMap prV)) : Makes Try.prog 138 #[.agg #[.int .i64 (((m : Nat) : Int)), .slice a1 n1 c1, .slice a2 n2 c2, .slice a3 n3 c3], .agg #[.int .i64 (((R : Nat) : Int)), .int .i64 (((m : Nat) : Int)), .int .i64 (((S : Nat) : Int)), .int .i64 (W)], .slice ga R gc] w [] (X := Option Addr × Nat) (fun x => .tuple #[slV (runD (chkB ((m : Nat) : Int) l1 l2 l3) l2 l3 K (mpD (chkB ((m : Nat) : Int) l1 l2 l3) ((m : Nat) : Int) l1 S m li nb (2 ^ K))) x, .int .i64 0]) (fun x => [slR prV 2 89 (runD (chkB ((m : Nat) : Int) l1 l2 l3) l2 l3 K (mpD (chkB ((m : Nat) : Int) l1 l2 l3) ((m : Nat) : Int) l1 S m li nb (2 ^ K))) x]) (fun _ => True) := by
 refine calls_S (n := 33) (σ0 := (upd (upd (upd fr0 0 (.agg #[.int .i64 (((m : Nat) : Int)), .slice a1 n1 c1, .slice a2 n2 c2, .slice a3 n3 c3])) 1 (.agg #[.int .i64 (((R : Nat) : Int)), .int .i64 (((m : Nat) : Int)), .int .i64 (((S : Nat) : Int)), .int .i64 (W)])) 2 (.slice ga R gc))) (D := []) (A := []) Try.func138 rfl Try.ntmps138 rfl (a3_fr _ _ _) (SH.start w) ?_
 obtain ⟨hjok, hjb, hjs, hK5, ⟨hR1, hR2⟩, ⟨hm1, hm2⟩, ⟨hS1, hS2⟩, hnm, hrs, hrs2, ⟨hnb1, hnb2⟩⟩ := hj
 have hj : JP R m S W nb K := ⟨hjok, hjb, hjs, hK5, ⟨hR1, hR2⟩, ⟨hm1, hm2⟩, ⟨hS1, hS2⟩, hnm, hrs, hrs2, ⟨hnb1, hnb2⟩⟩
 have hp2 : 2 ^ K ≤ 32 := Nat.pow_le_pow_right (n := 2) (by decide) hK5
 have hp1 := Nat.two_pow_pos K
 have hI := jpM (li := li) hj hck
 have hrt : (rnd ((2 ^ K : Nat) : Int)) ≤ 21 := rnd21 (by omega)
 have hsl := stg_len hI (t := 2 + 2 * (rnd ((2 ^ K : Nat) : Int))) (by omega)
 have hsf := stg_flat hI (t := 2 + 2 * (rnd ((2 ^ K : Nat) : Int))) (by omega)
 have hks : 2 ^ K * S ≤ 32 * 8 := Nat.mul_le_mul hp2 (by omega)
 refine wpS_seq ?_
 refine wpS_region ?_
 refine s_e rfl ?_
 refine e_box (v := .agg #[.int .i64 (((m : Nat) : Int)), .slice a1 n1 c1, .slice a2 n2 c2, .slice a3 n3 c3]) (l := [.int .i64 (((m : Nat) : Int)), .slice a1 n1 c1, .slice a2 n2 c2, .slice a3 n3 c3]) rfl rfl ?_
 intro b_1
 refine s_e rfl ?_
 refine e_box (v := .agg #[.int .i64 (((R : Nat) : Int)), .int .i64 (((m : Nat) : Int)), .int .i64 (((S : Nat) : Int)), .int .i64 (W)]) (l := [.int .i64 (((R : Nat) : Int)), .int .i64 (((m : Nat) : Int)), .int .i64 (((S : Nat) : Int)), .int .i64 (W)]) rfl rfl ?_
 intro b_2
 refine s_y (v := .slice none 0 0) (y_assign rfl) rfl ?_
 refine s_y (v := .int .i64 0) (y_assign rfl) rfl ?_
 refine wpL_nil ?_
 refine thenS_n ?_
 refine wpS_seq ?_
 refine wpS_region ?_
 refine s_y (v := .agg #[.int .i64 (((R : Nat) : Int)), .int .i64 (((m : Nat) : Int)), .int .i64 (((S : Nat) : Int)), .int .i64 (W)]) (y_loadN (vs := [.int .i64 (((R : Nat) : Int)), .int .i64 (((m : Nat) : Int)), .int .i64 (((S : Nat) : Int)), .int .i64 (W)]) rfl Try.isAgg53 Try.sizeOf53 (ownN .h rfl)) rfl ?_
 refine s_y (v := .tuple #[.int .i64 (((nb : Nat) : Int)), .int .i64 ((((2 ^ K) : Nat) : Int))]) (y_call (args := #[.agg #[.int .i64 (((R : Nat) : Int)), .int .i64 (((m : Nat) : Int)), .int .i64 (((S : Nat) : Int)), .int .i64 (W)]]) (v := .tuple #[.int .i64 (((nb : Nat) : Int)), .int .i64 ((((2 ^ K) : Nat) : Int))]) Try.call135 (ev1 rfl) (fun w hs => blocksJ_c hj w)) rfl ?_
 refine s_y (v := .tuple #[.int .i64 (((nb : Nat) : Int)), .int .i64 ((((2 ^ K) : Nat) : Int))]) (y_move rfl) rfl ?_
 refine s_y (v := .int .i64 (((nb : Nat) : Int))) (y_extract (v := .int .i64 (((nb : Nat) : Int))) rfl rfl) rfl ?_
 refine s_y (v := .int .i64 ((((2 ^ K) : Nat) : Int))) (y_extract (v := .int .i64 ((((2 ^ K) : Nat) : Int))) rfl rfl) rfl ?_
 refine s_y (v := .int .i64 (((nb : Nat) : Int))) (y_assign rfl) rfl ?_
 refine s_y (v := .int .i64 ((((2 ^ K) : Nat) : Int))) (y_assign rfl) rfl ?_
 refine wpL_nil ?_
 refine thenS_n ?_
 refine wpS_seq ?_
 refine wpS_anyL [cel b_2 53 [.int .i64 (((R : Nat) : Int)), .int .i64 (((m : Nat) : Int)), .int .i64 (((S : Nat) : Int)), .int .i64 (W)], cel b_1 84 [.int .i64 (((m : Nat) : Int)), .slice a1 n1 c1, .slice a2 n2 c2, .slice a3 n3 c3]] [] (by kernel_rfl) ?_
 refine anyS_take (i := 0) rfl (by kernel_rfl) (by kernel_rfl) (by kernel_rfl) (by kernel_rfl) (Yq.of (v := .agg #[.int .i64 (((m : Nat) : Int)), .slice a1 n1 c1, .slice a2 n2 c2, .slice a3 n3 c3]) (y_loadN (vs := [.int .i64 (((m : Nat) : Int)), .slice a1 n1 c1, .slice a2 n2 c2, .slice a3 n3 c3]) rfl Try.isAgg84 Try.sizeOf84 (ownN (.t .h) rfl)) rfl) (.p .h (.p .h .nil)) ?_
 refine anyS_take (i := 1) rfl (by kernel_rfl) (by kernel_rfl) (by kernel_rfl) (by kernel_rfl) (Yq.of (v := .agg #[.int .i64 (((R : Nat) : Int)), .int .i64 (((m : Nat) : Int)), .int .i64 (((S : Nat) : Int)), .int .i64 (W)]) (y_loadN (vs := [.int .i64 (((R : Nat) : Int)), .int .i64 (((m : Nat) : Int)), .int .i64 (((S : Nat) : Int)), .int .i64 (W)]) rfl Try.isAgg53 Try.sizeOf53 (ownN .h rfl)) rfl) (.p .h (.p .h .nil)) ?_
 refine anyS_take (i := 2) rfl (by kernel_rfl) (by kernel_rfl) (by kernel_rfl) (by kernel_rfl) (Yq.of (v := .slice ga R gc) (y_move rfl) rfl) (.p .h (.p .h .nil)) ?_
 refine anyS_take (i := 3) rfl (by kernel_rfl) (by kernel_rfl) (by kernel_rfl) (by kernel_rfl) (Yq.of (v := .int .i64 ((((2 ^ K) : Nat) : Int))) (y_move rfl) rfl) (.p .h (.p .h .nil)) ?_
 refine anyS_take (i := 4) rfl (by kernel_rfl) (by kernel_rfl) (by kernel_rfl) (by kernel_rfl) (Yq.of (v := .int .i64 ((((rnd ((((2 ^ K) : Nat) : Int))) : Nat) : Int))) (y_call (args := #[.int .i64 ((((2 ^ K) : Nat) : Int))]) (v := .int .i64 ((((rnd ((((2 ^ K) : Nat) : Int))) : Nat) : Int))) Try.call52 (ev1 rfl) (fun w hs => rounds_c ((((2 ^ K) : Nat) : Int)) (by omega) (by omega) w)) rfl) (.p .h (.p .h .nil)) ?_
 refine anyS_take (i := 5) rfl (by kernel_rfl) (by kernel_rfl) (by kernel_rfl) (by kernel_rfl) (Yq.of (v := .int .i64 ((((2 * (rnd ((((2 ^ K) : Nat) : Int)))) : Nat) : Int))) (y_mul (a := 2) (b := (((rnd ((((2 ^ K) : Nat) : Int))) : Nat) : Int)) (c := (((2 * (rnd ((((2 ^ K) : Nat) : Int)))) : Nat) : Int)) rfl rfl (wI (by omega) (by omega) (by omega))) rfl) (.p .h (.p .h .nil)) ?_
 refine anyS_take (i := 6) rfl (by kernel_rfl) (by kernel_rfl) (by kernel_rfl) (by kernel_rfl) (Yq.of (v := .int .i64 ((((2 + (2 * (rnd ((((2 ^ K) : Nat) : Int))))) : Nat) : Int))) (y_add (a := 2) (b := (((2 * (rnd ((((2 ^ K) : Nat) : Int)))) : Nat) : Int)) (c := (((2 + (2 * (rnd ((((2 ^ K) : Nat) : Int))))) : Nat) : Int)) rfl rfl (wI (by omega) (by omega) (by omega))) rfl) (.p .h (.p .h .nil)) ?_
 refine anyS_all (rs := [7]) (by kernel_rfl) (by simp) ?_
 intro i hi; obtain rfl := List.mem_singleton.1 hi; clear hi
 refine opS_0 rfl rfl ?_
 refine e_call (f := 136) (args := #[.agg #[.int .i64 (((m : Nat) : Int)), .slice a1 n1 c1, .slice a2 n2 c2, .slice a3 n3 c3], .agg #[.int .i64 (((R : Nat) : Int)), .int .i64 (((m : Nat) : Int)), .int .i64 (((S : Nat) : Int)), .int .i64 (W)], .slice ga R gc, .int .i64 ((((2 + (2 * (rnd ((((2 ^ K) : Nat) : Int))))) : Nat) : Int))]) (X := (Option Addr × Nat) × List SlH) (A := []) (M := [cel b_2 53 [.int .i64 (((R : Nat) : Int)), .int .i64 (((m : Nat) : Int)), .int .i64 (((S : Nat) : Int)), .int .i64 (W)], cel b_1 84 [.int .i64 (((m : Nat) : Int)), .slice a1 n1 c1, .slice a2 n2 c2, .slice a3 n3 c3]]) (V := fun x => .tuple #[.slice x.1.1 (2 ^ K) x.1.2, .int .i64 0]) (A' := fun x => [osl x.1.1 x.1.2 (2 ^ K) 1 69 (x.2.flatMap slhV), fam x.2 (stg3 (chkB ((m : Nat) : Int) l1 l2 l3) l2 l3 K (mpD (chkB ((m : Nat) : Int) l1 l2 l3) ((m : Nat) : Int) l1 S m li nb (2 ^ K)) (2 + (2 * (rnd ((((2 ^ K) : Nat) : Int))))))]) (C := fun x => x.2.length = (2 ^ K) ∧ ∀ k, k < (2 ^ K) → (x.2.getD k default).n = S) Try.call136 (ev4 rfl rfl rfl rfl) (.p .h (.p .h .nil)) (fun w hs => stage_c a1 a2 a3 n1 c1 n2 c2 n3 c3 l1 l2 l3 R m S W nb K ga gc li (2 + (2 * (rnd ((((2 ^ K) : Nat) : Int))))) w hj hn1 ((oldR hr1) w hs) (by omega) hn2 ((oldR hr2) w hs) (by omega) hn3 ((oldR hr3) w hs) (by omega) hck hl ((oldR hr) w hs) (by omega) (by omega)) ?_
 rintro ⟨⟨a_3, c_4⟩, h_5⟩ ⟨hH6l, hH6n⟩
 replace hH6l : h_5.length = (2 ^ K) := hH6l
 replace hH6n : ∀ k, k < (2 ^ K) → (h_5.getD k default).n = S := hH6n
 refine ⟨.inr (.p (.t (.t .h)) (.p (.t (.t .h)) .nil)), ?_⟩
 refine anyS_take (i := 8) rfl (by kernel_rfl) (by kernel_rfl) (by kernel_rfl) (by kernel_rfl) (Yq.of (v := .tuple #[.slice a_3 (2 ^ K) c_4, .int .i64 0]) (y_move rfl) rfl) (.p (.t (.t .h)) (.p (.t (.t .h)) .nil)) ?_
 refine anyS_take (i := 9) rfl (by kernel_rfl) (by kernel_rfl) (by kernel_rfl) (by kernel_rfl) (Yq.of (v := .slice a_3 (2 ^ K) c_4) (y_extract (v := .slice a_3 (2 ^ K) c_4) rfl rfl) rfl) (.p (.t (.t .h)) (.p (.t (.t .h)) .nil)) ?_
 refine anyS_take (i := 10) rfl (by kernel_rfl) (by kernel_rfl) (by kernel_rfl) (by kernel_rfl) (Yq.of (v := .int .i64 0) (y_extract (v := .int .i64 0) rfl rfl) rfl) (.p (.t (.t .h)) (.p (.t (.t .h)) .nil)) ?_
 refine anyS_take (i := 11) rfl (by kernel_rfl) (by kernel_rfl) (by kernel_rfl) (by kernel_rfl) (Yq.of (v := .slice a_3 (2 ^ K) c_4) (y_assign rfl) rfl) (.p (.t (.t .h)) (.p (.t (.t .h)) .nil)) ?_
 refine anyS_take (i := 12) rfl (by kernel_rfl) (by kernel_rfl) (by kernel_rfl) (by kernel_rfl) (Yq.of (v := .int .i64 0) (y_assign rfl) rfl) (.p (.t (.t .h)) (.p (.t (.t .h)) .nil)) ?_
 refine anyS_done (by kernel_rfl) ?_
 refine thenS_n ?_
 refine wpS_seq ?_
 refine wpS_seq ?_
 refine wpS_region ?_
 refine s_y (v := .int .i64 0) (y_move rfl) rfl ?_
 refine s_y (v := .bool false) (y_neq (a := 0) (b := 0) (c := false) rfl rfl (by decide)) rfl ?_
 refine wpL_nil ?_
 refine thenS_n ?_
 refine wpS_cond_f rfl ?_
 refine wpS_skip ?_
 refine thenS_n ?_
 refine wpS_seq ?_
 refine wpS_region ?_
 refine s_y (v := .slice a_3 (2 ^ K) c_4) (y_move rfl) rfl ?_
 have HX := hH6n
 refine s_e rfl ?_
 refine e_call (f := 211) (args := #[.slice a_3 (2 ^ K) c_4]) (X := Option Addr × Nat) (A := []) (M := [osl a_3 c_4 (2 ^ K) 1 69 (h_5.flatMap slhV), fam h_5 (stg3 (chkB ((m : Nat) : Int) l1 l2 l3) l2 l3 K (mpD (chkB ((m : Nat) : Int) l1 l2 l3) ((m : Nat) : Int) l1 S m li nb (2 ^ K)) (2 + (2 * (rnd ((((2 ^ K) : Nat) : Int)))))), cel b_2 53 [.int .i64 (((R : Nat) : Int)), .int .i64 (((m : Nat) : Int)), .int .i64 (((S : Nat) : Int)), .int .i64 (W)], cel b_1 84 [.int .i64 (((m : Nat) : Int)), .slice a1 n1 c1, .slice a2 n2 c2, .slice a3 n3 c3]]) (V := slV (alv (stg3 (chkB ((m : Nat) : Int) l1 l2 l3) l2 l3 K (mpD (chkB ((m : Nat) : Int) l1 l2 l3) ((m : Nat) : Int) l1 S m li nb (2 ^ K)) (2 + (2 * (rnd ((((2 ^ K) : Nat) : Int)))))).flatten)) (A' := fun x => [slR prV 2 89 (alv (stg3 (chkB ((m : Nat) : Int) l1 l2 l3) l2 l3 K (mpD (chkB ((m : Nat) : Int) l1 l2 l3) ((m : Nat) : Int) l1 S m li nb (2 ^ K)) (2 + (2 * (rnd ((((2 ^ K) : Nat) : Int)))))).flatten) x]) (C := fun x => (alv (stg3 (chkB ((m : Nat) : Int) l1 l2 l3) l2 l3 K (mpD (chkB ((m : Nat) : Int) l1 l2 l3) ((m : Nat) : Int) l1 S m li nb (2 ^ K)) (2 + (2 * (rnd ((((2 ^ K) : Nat) : Int)))))).flatten).length ≤ x.2) Try.call211 (ev1 rfl) (.p .h (.p .h (.p .h (.p .h .nil)))) (fun w hs => (pairs_c a_3 (2 ^ K) c_4 h_5 (stg3 (chkB ((m : Nat) : Int) l1 l2 l3) l2 l3 K (mpD (chkB ((m : Nat) : Int) l1 l2 l3) ((m : Nat) : Int) l1 S m li nb (2 ^ K)) (2 + (2 * (rnd ((((2 ^ K) : Nat) : Int)))))) w (by assumption) (oslR .h w hs) hsl.1 (fun k hk => ⟨((getD_len hsl hk).trans (HX k hk).symm), fam_rd (.t .h) (by omega) w hs⟩) (by omega) (by omega)).cap) ?_
 rintro ⟨a_7, c_8⟩ hc9; replace hc9 : (alv (stg3 (chkB ((m : Nat) : Int) l1 l2 l3) l2 l3 K (mpD (chkB ((m : Nat) : Int) l1 l2 l3) ((m : Nat) : Int) l1 S m li nb (2 ^ K)) (2 + (2 * (rnd ((((2 ^ K) : Nat) : Int)))))).flatten).length ≤ c_8 := hc9
 refine s_y (v := .slice a_7 ((alv (stg3 (chkB ((m : Nat) : Int) l1 l2 l3) l2 l3 K (mpD (chkB ((m : Nat) : Int) l1 l2 l3) ((m : Nat) : Int) l1 S m li nb (2 ^ K)) (2 + (2 * (rnd ((((2 ^ K) : Nat) : Int)))))).flatten).length) c_8) (y_assign rfl) rfl ?_
 refine s_y (v := .int .i64 0) (y_assign rfl) rfl ?_
 refine wpL_nil ?_
 refine thenS_n ?_
 refine wpS_ret ?_
 refine fin2 (M := [osl a_7 c_8 ((alv (stg3 (chkB ((m : Nat) : Int) l1 l2 l3) l2 l3 K (mpD (chkB ((m : Nat) : Int) l1 l2 l3) ((m : Nat) : Int) l1 S m li nb (2 ^ K)) (2 + (2 * (rnd ((((2 ^ K) : Nat) : Int)))))).flatten).length) 2 89 ((alv (stg3 (chkB ((m : Nat) : Int) l1 l2 l3) l2 l3 K (mpD (chkB ((m : Nat) : Int) l1 l2 l3) ((m : Nat) : Int) l1 S m li nb (2 ^ K)) (2 + (2 * (rnd ((((2 ^ K) : Nat) : Int)))))).flatten).flatMap prV)]) (.inr rfl) (.p .h .nil) Try.results138 (rvT (v := .slice a_7 ((alv (stg3 (chkB ((m : Nat) : Int) l1 l2 l3) l2 l3 K (mpD (chkB ((m : Nat) : Int) l1 l2 l3) ((m : Nat) : Int) l1 S m li nb (2 ^ K)) (2 + (2 * (rnd ((((2 ^ K) : Nat) : Int)))))).flatten).length) c_8) rfl) (rvT (v := .int .i64 0) rfl) ?_
 exact fun w' hs => ⟨(a_7, c_8), rfl, hs, trivial⟩
end Go.Proofs.Ytldkjjnjdjfipaa
namespace Go.Proofs.Ytldkjjnjdjfipaa
open Go Go.RowKit
set_option linter.unusedVariables false
set_option linter.unusedSimpArgs false
set_option maxRecDepth 10000
set_option maxHeartbeats 1000000
theorem equalP (w : World) (a b : Pr) : (Op.equal 89 (.agg #[.int .i64 a.1.toInt, .int .i64 a.2.toInt]) (.agg #[.int .i64 b.1.toInt, .int .i64 b.2.toInt])).run Try.prog w = .ok (decide (a = b)) w := by
  have e : decide (a = b) = (decide (a.1 = b.1) && decide (a.2 = b.2)) := by
    rw [Bool.eq_iff_iff]
    cases a; cases b
    simp
  rw [e]
  simp [go_sem, Op.equal, Op.maxDepth, Int64.toInt_inj]
  by_cases h1 : a.1 = b.1 <;> by_cases h2 : a.2 = b.2 <;> simp [h1, h2]
theorem plain1P_c (a b : Pr) (w : World) : Pure Try.prog 215 #[.agg #[.int .i64 (a.1.toInt), .int .i64 (a.2.toInt)], .agg #[.int .i64 (b.1.toInt), .int .i64 (b.2.toInt)]] w (.bool ((decide (a = b)))) := by
 refine calls_S (n := 8) (σ0 := (upd (upd fr0 0 (.agg #[.int .i64 (a.1.toInt), .int .i64 (a.2.toInt)])) 1 (.agg #[.int .i64 (b.1.toInt), .int .i64 (b.2.toInt)]))) (D := []) (A := []) Try.func215 rfl Try.ntmps215 rfl (a2_fr _ _) (SH.start w) ?_
 refine wpS_seq ?_
 refine wpS_region ?_
 refine s_e rfl ?_
 refine e_box (v := .agg #[.int .i64 (a.1.toInt), .int .i64 (a.2.toInt)]) (l := [.int .i64 (a.1.toInt), .int .i64 (a.2.toInt)]) rfl rfl ?_
 intro b_1
 refine s_e rfl ?_
 refine e_box (v := .agg #[.int .i64 (b.1.toInt), .int .i64 (b.2.toInt)]) (l := [.int .i64 (b.1.toInt), .int .i64 (b.2.toInt)]) rfl rfl ?_
 intro b_2
 refine s_y (v := .bool false) (y_assign rfl) rfl ?_
 refine wpL_nil ?_
 refine thenS_n ?_
 refine wpS_seq ?_
 refine wpS_region ?_
 refine s_y (v := .agg #[.int .i64 (a.1.toInt), .int .i64 (a.2.toInt)]) (y_loadN (vs := [.int .i64 (a.1.toInt), .int .i64 (a.2.toInt)]) rfl Try.isAgg89 Try.sizeOf89 (ownN (.t .h) rfl)) rfl ?_
 refine s_y (v := .agg #[.int .i64 (b.1.toInt), .int .i64 (b.2.toInt)]) (y_loadN (vs := [.int .i64 (b.1.toInt), .int .i64 (b.2.toInt)]) rfl Try.isAgg89 Try.sizeOf89 (ownN .h rfl)) rfl ?_
 refine s_y (v := .bool (decide (a = b))) (y_eqlS (a := #[.int .i64 (a.1.toInt), .int .i64 (a.2.toInt)]) (b := #[.int .i64 (b.1.toInt), .int .i64 (b.2.toInt)]) (c := decide (a = b)) Try.eqGuardType89 (fun w => equalP w a b) rfl rfl) rfl ?_
 refine s_y (v := .bool (decide (a = b))) (y_assign rfl) rfl ?_
 refine wpL_nil ?_
 refine thenS_n ?_
 refine wpS_ret ?_
 refine fin1 (M := []) (v := .bool (decide (a = b))) (.inr rfl) (.nil) Try.results215 rfl ?_
 exact fun w' hs => ⟨rfl, hs⟩
theorem hsameP_c (ax ay : Option Addr) (nx ny cx cy : Nat) (x y : List Pr) (w : World) (hnx : x.length = nx) (hrx : Rds w ax (x.flatMap prV)) (hbx : nx ≤ 1000000) (hny : y.length = ny) (hry : Rds w ay (y.flatMap prV)) (hby : ny ≤ 1000000) : Pure Try.prog 214 #[.slice ax nx cx, .slice ay ny cy, .func (.func 215) #[] #[]] w (.bool (decide (x = y))) := by
 refine calls_S (n := 30) (σ0 := (upd (upd (upd fr0 0 (.slice ax nx cx)) 1 (.slice ay ny cy)) 2 (.func (.func 215) #[] #[]))) (D := []) (A := []) Try.func214 rfl Try.ntmps214 rfl (a3_fr _ _ _) (SH.start w) ?_
 refine wpS_seq ?_
 refine wpS_region ?_
 refine s_y (v := .bool false) (y_assign rfl) rfl ?_
 refine wpL_nil ?_
 refine thenS_n ?_
 refine wpS_seq ?_
 refine wpS_seq ?_
 refine wpS_region ?_
 refine s_y (v := .slice ax nx cx) (y_move rfl) rfl ?_
 refine s_y (v := .int .i64 (((nx : Nat) : Int))) (y_len (ty' := 0) (at_ := #[]) rfl Try.underlying153) rfl ?_
 refine s_y (v := .slice ay ny cy) (y_move rfl) rfl ?_
 refine s_y (v := .int .i64 (((ny : Nat) : Int))) (y_len (ty' := 0) (at_ := #[]) rfl Try.underlying153) rfl ?_
 refine s_y (v := .bool (decide (nx ≠ ny))) (y_neq (a := ((nx : Nat) : Int)) (b := ((ny : Nat) : Int)) (c := decide (nx ≠ ny)) rfl rfl (decide_eq_decide.2 (by omega))) rfl ?_
 refine wpL_nil ?_
 refine thenS_n ?_
 refine wpS_cond (t := decide (nx ≠ ny)) rfl (fun b1 => ?_) (fun b1 => ?_)
 ·
  have p1 := of_decide_eq_true b1
  refine wpS_seq ?_
  refine wpS_region ?_
  refine s_y (v := .bool false) (y_assign rfl) rfl ?_
  refine wpL_nil ?_
  refine thenS_n ?_
  refine wpS_ret ?_
  refine thenS_r ?_
  refine fin1 (M := []) (v := .bool false) (.inr rfl) (.nil) Try.results214 rfl ?_
  exact fun w' hs => ⟨congrArg (fun b => Ending.returned (Value.bool b)) (by exact (decide_eq_false fun h => by subst h; omega).symm), hs⟩
 ·
  have p1 := of_decide_eq_false b1
  refine wpS_skip ?_
  refine thenS_n ?_
  refine wpS_seq ?_
  refine wpS_seq ?_
  refine wpS_region ?_
  refine s_y (v := .int .i64 0) (y_assign rfl) rfl ?_
  refine wpL_nil ?_
  refine thenS_n ?_
  refine wpS_block ?_
  refine wpS_loop (fun mez ds σ L => ∃ i : Nat, mez = nx - i ∧ (i ≤ nx) ∧ (x.take i = y.take i) ∧ ds = [] ∧ σ 0 = .slice ax nx cx ∧ σ 1 = .slice ay ny cy ∧ σ 2 = .func (.func 215) #[] #[] ∧ σ 7 = .int .i64 (((i : Nat) : Int)) ∧ Ent L []) (m0 := nx - 0) ⟨0, rfl, by omega, (by simp), rfl, rfl, rfl, rfl, rfl, .nil⟩ ?_
  rintro mez ds σ L ⟨i, hm_2, hf0_2, hf1_2, rfl, h0_2, h1_2, h2_2, h7_2, hE_2⟩
  refine wpS_ent hE_2 ?_; clear hE_2
  refine wpS_seq ?_
  refine wpS_seq ?_
  refine wpS_region ?_
  refine s_y (v := .int .i64 (((i : Nat) : Int))) (y_move h7_2) rfl ?_
  refine s_y (v := .slice ax nx cx) (y_move h0_2) rfl ?_
  refine s_y (v := .int .i64 (((nx : Nat) : Int))) (y_len (ty' := 0) (at_ := #[]) rfl Try.underlying153) rfl ?_
  refine s_y (v := .bool (decide (i < nx))) (y_lss (a := ((i : Nat) : Int)) (b := ((nx : Nat) : Int)) (c := decide (i < nx)) rfl rfl (decide_eq_decide.2 (by omega))) rfl ?_
  refine wpL_nil ?_
  refine thenS_n ?_
  refine wpS_cond (t := decide (i < nx)) rfl (fun b3 => ?_) (fun b3 => ?_)
  ·
   have p3 := of_decide_eq_true b3
   refine wpS_skip ?_
   refine thenS_n ?_
   refine wpS_seq ?_
   refine wpS_block ?_
   refine wpS_seq ?_
   refine wpS_lex (by kernel_rfl) (by kernel_rfl) ?_
   refine x_y (v := .func (.func 215) #[] #[]) (y_move h2_2) rfl ?_
   refine x_y (v := .slice ax nx cx) (y_move h0_2) rfl ?_
   refine x_y (v := .int .i64 (((i : Nat) : Int))) (y_move h7_2) rfl ?_
   refine x_y (v := .pointer (some ⟨aB ax, aO ax + i * 2, none⟩)) (y_idx (o := i * 2) rfl rfl Try.underlying153 Try.sizeOf89 (oldR hrx) ((fl_len prV_len _).trans (by first | omega | (simp only [List.length_set, List.length_take, List.length_drop]; done) | (simp only [List.length_set, List.length_take, List.length_drop]; omega))) (by decide) (by omega) (by omega) (by omega)) rfl ?_
   refine x_y (v := .agg #[.int .i64 (((x.getD i default).1).toInt), .int .i64 (((x.getD i default).2).toInt)]) (y_loadN (vs := prV (x.getD i default)) rfl Try.isAgg89 Try.sizeOf89 (rdN (oldR hrx) (fl_getN prV_len x i (by first | omega | (simp only [List.length_set, List.length_take, List.length_drop]; done) | (simp only [List.length_set, List.length_take, List.length_drop]; omega))))) rfl ?_
   refine x_y (v := .slice ay ny cy) (y_move h1_2) rfl ?_
   refine x_y (v := .int .i64 (((i : Nat) : Int))) (y_move h7_2) rfl ?_
   refine x_y (v := .pointer (some ⟨aB ay, aO ay + i * 2, none⟩)) (y_idx (o := i * 2) rfl rfl Try.underlying153 Try.sizeOf89 (oldR hry) ((fl_len prV_len _).trans (by first | omega | (simp only [List.length_set, List.length_take, List.length_drop]; done) | (simp only [List.length_set, List.length_take, List.length_drop]; omega))) (by decide) (by omega) (by omega) (by omega)) rfl ?_
   refine x_y (v := .agg #[.int .i64 (((y.getD i default).1).toInt), .int .i64 (((y.getD i default).2).toInt)]) (y_loadN (vs := prV (y.getD i default)) rfl Try.isAgg89 Try.sizeOf89 (rdN (oldR hry) (fl_getN prV_len y i (by first | omega | (simp only [List.length_set, List.length_take, List.length_drop]; done) | (simp only [List.length_set, List.length_take, List.length_drop]; omega))))) rfl ?_
   refine x_y (v := .bool (decide ((x.getD i default) = (y.getD i default)))) (y_callV (cap := #[]) (args := #[.agg #[.int .i64 (((x.getD i default).1).toInt), .int .i64 (((x.getD i default).2).toInt)], .agg #[.int .i64 (((y.getD i default).1).toInt), .int .i64 (((y.getD i default).2).toInt)]]) (args' := #[.agg #[.int .i64 (((x.getD i default).1).toInt), .int .i64 (((x.getD i default).2).toInt)], .agg #[.int .i64 (((y.getD i default).1).toInt), .int .i64 (((y.getD i default).2).toInt)]]) (v := .bool (decide ((x.getD i default) = (y.getD i default)))) rfl Try.call215 (ev2 rfl rfl) rfl (fun w hs => plain1P_c (x.getD i default) (y.getD i default) w)) rfl ?_
   refine x_y (v := .bool (!(decide ((x.getD i default) = (y.getD i default))))) (y_not (b := decide ((x.getD i default) = (y.getD i default))) rfl) rfl ?_
   refine x_nil ?_
   refine thenS_n ?_
   refine wpS_cond (t := !(decide ((x.getD i default) = (y.getD i default)))) rfl (fun b4 => ?_) (fun b4 => ?_)
   ·
    have b5 : (decide ((x.getD i default) = (y.getD i default))) = false := by simpa using b4
    have p5 := of_decide_eq_false b5
    refine wpS_seq ?_
    refine wpS_region ?_
    refine s_y (v := .bool false) (y_assign rfl) rfl ?_
    refine wpL_nil ?_
    refine thenS_n ?_
    refine wpS_ret ?_
    refine blockS_r ?_
    refine thenS_r ?_
    refine thenS_r ?_
    refine blockS_r ?_
    refine thenS_r ?_
    refine fin1 (M := []) (v := .bool false) (.inr rfl) (.nil) Try.results214 rfl ?_
    exact fun w' hs => ⟨congrArg (fun b => Ending.returned (Value.bool b)) (by exact (gsame_not (i := i) (by assumption)).symm), hs⟩
   ·
    have b6 : (decide ((x.getD i default) = (y.getD i default))) = true := by simpa using b4
    have p6 := of_decide_eq_true b6
    refine wpS_skip ?_
    refine blockS_n ?_
    refine thenS_n ?_
    refine wpS_region ?_
    refine s_y (v := .int .i64 (((i : Nat) : Int))) (y_move h7_2) rfl ?_
    refine s_y (v := .int .i64 ((((i + 1) : Nat) : Int))) (y_add (a := ((i : Nat) : Int)) (b := 1) (c := (((i + 1) : Nat) : Int)) rfl rfl (wI (by omega) (by omega) (by omega))) rfl ?_
    refine s_y (v := .int .i64 ((((i + 1) : Nat) : Int))) (y_assign rfl) rfl ?_
    refine wpL_nil ?_
    refine thenS_n ?_
    exact ⟨_, by omega, ⟨(i + 1), rfl, by omega, (gsame_step (by omega) (by omega) (by assumption) (by assumption)), rfl, h0_2, h1_2, h2_2, rfl, .nil⟩⟩
  ·
   have p3 := of_decide_eq_false b3
   refine wpS_exit ?_
   refine thenS_x ?_
   refine thenS_x ?_
   refine blockS_h ?_
   refine thenS_n ?_
   refine wpS_seq ?_
   refine wpS_region ?_
   refine s_y (v := .bool true) (y_assign rfl) rfl ?_
   refine wpL_nil ?_
   refine thenS_n ?_
   refine wpS_ret ?_
   refine fin1 (M := []) (v := .bool true) (.inr rfl) (.nil) Try.results214 rfl ?_
   exact fun w' hs => ⟨congrArg (fun b => Ending.returned (Value.bool b)) (by exact (gsame_all (i := i) hnx hny (by omega) (by omega) (by assumption)).symm), hs⟩
theorem plainP_c (ax ay : Option Addr) (nx ny cx cy : Nat) (x y : List Pr) (w : World) (hnx : x.length = nx) (hrx : Rds w ax (x.flatMap prV)) (hbx : nx ≤ 1000000) (hny : y.length = ny) (hry : Rds w ay (y.flatMap prV)) (hby : ny ≤ 1000000) : Pure Try.prog 140 #[.slice ax nx cx, .slice ay ny cy] w (.bool ((decide (x = y)))) := by
 refine calls_S (n := 8) (σ0 := (upd (upd fr0 0 (.slice ax nx cx)) 1 (.slice ay ny cy))) (D := []) (A := []) Try.func140 rfl Try.ntmps140 rfl (a2_fr _ _) (SH.start w) ?_
 refine wpS_seq ?_
 refine wpS_region ?_
 refine s_y (v := .bool false) (y_assign rfl) rfl ?_
 refine wpL_nil ?_
 refine thenS_n ?_
 refine wpS_seq ?_
 refine wpS_region ?_
 refine s_y (v := .slice ax nx cx) (y_move rfl) rfl ?_
 refine s_y (v := .slice ay ny cy) (y_move rfl) rfl ?_
 refine s_y (v := .bool (decide (x = y))) (y_call (args := #[.slice ax nx cx, .slice ay ny cy, .func (.func 215) #[] #[]]) (v := .bool (decide (x = y))) Try.call214 (ev3 rfl rfl rfl) (fun w hs => hsameP_c ax ay nx ny cx cy x y w hnx ((oldR hrx) w hs) (by omega) hny ((oldR hry) w hs) (by omega))) rfl ?_
 refine s_y (v := .bool (decide (x = y))) (y_assign rfl) rfl ?_
 refine wpL_nil ?_
 refine thenS_n ?_
 refine wpS_ret ?_
 refine fin1 (M := []) (v := .bool (decide (x = y))) (.inr rfl) (.nil) Try.results140 rfl ?_
 exact fun w' hs => ⟨rfl, hs⟩
theorem awake16_c (w : World) : Pure Try.prog 137 #[] w (.bool true) := by
 refine calls_S (n := 14) (σ0 := fr0) (D := []) (A := []) Try.func137 rfl Try.ntmps137 rfl (a0_fr) (SH.start w) ?_
 refine wpS_seq ?_
 refine wpS_region ?_
 refine s_y (v := .bool false) (y_assign rfl) rfl ?_
 refine wpL_nil ?_
 refine thenS_n ?_
 refine wpS_seq ?_
 refine wpS_region ?_
 refine s_y (v := .agg #[.int .i64 3, .int .i64 1, .int .i64 2, .int .i64 1]) (y_buildL (m := [(0, .int .i64 3), (1, .int .i64 1), (2, .int .i64 2), (3, .int .i64 1)]) (vs := #[.int .i64 3, .int .i64 1, .int .i64 2, .int .i64 1]) (evc rfl (evc rfl (evc rfl (evc rfl evn)))) (fun w => by kernel_rfl)) rfl ?_
 refine s_y (v := .tuple #[.int .i64 (bk (Par.mk 3 1 2 1)), .int .i64 ((((sl (Par.mk 3 1 2 1)) : Nat) : Int))]) (y_call (args := #[.agg #[.int .i64 3, .int .i64 1, .int .i64 2, .int .i64 1]]) (v := .tuple #[.int .i64 (bk (Par.mk 3 1 2 1)), .int .i64 ((((sl (Par.mk 3 1 2 1)) : Nat) : Int))]) Try.call135 (ev1 rfl) (fun w hs => blocks_c (Par.mk 3 1 2 1) w)) rfl ?_
 refine s_y (v := .tuple #[.int .i64 (bk (Par.mk 3 1 2 1)), .int .i64 ((((sl (Par.mk 3 1 2 1)) : Nat) : Int))]) (y_move rfl) rfl ?_
 refine s_y (v := .int .i64 (bk (Par.mk 3 1 2 1))) (y_extract (v := .int .i64 (bk (Par.mk 3 1 2 1))) rfl rfl) rfl ?_
 refine s_y (v := .int .i64 ((((sl (Par.mk 3 1 2 1)) : Nat) : Int))) (y_extract (v := .int .i64 ((((sl (Par.mk 3 1 2 1)) : Nat) : Int))) rfl rfl) rfl ?_
 refine s_y (v := .int .i64 (bk (Par.mk 3 1 2 1))) (y_assign rfl) rfl ?_
 refine s_y (v := .int .i64 ((((sl (Par.mk 3 1 2 1)) : Nat) : Int))) (y_assign rfl) rfl ?_
 refine wpL_nil ?_
 refine thenS_n ?_
 refine wpS_seq ?_
 refine wpS_region ?_
 refine s_y (v := .int .i64 (bk (Par.mk 3 1 2 1))) (y_move rfl) rfl ?_
 refine s_y (v := .bool (decide ((bk (Par.mk 3 1 2 1) : Int) = 2))) (y_eql (a := bk (Par.mk 3 1 2 1)) (b := 2) rfl rfl rfl) rfl ?_
 refine s_y (v := .bool (decide ((bk (Par.mk 3 1 2 1) : Int) = 2))) (y_move rfl) rfl ?_
 refine s_gy (y_move rfl) rfl rfl rfl rfl (b' := decide ((bk (Par.mk 3 1 2 1) : Int) = 2)) rfl (by decide +kernel) ?_
 refine s_gy (y_eql (a := (((sl (Par.mk 3 1 2 1)) : Nat) : Int)) (b := 4) (c := decide (((sl (Par.mk 3 1 2 1)) : Nat) = 4)) rfl rfl (decide_eq_decide.2 (by omega))) rfl rfl rfl rfl (b' := decide ((bk (Par.mk 3 1 2 1) : Int) = 2)) rfl (by decide +kernel) ?_
 refine s_y (v := .bool (decide (((sl (Par.mk 3 1 2 1)) : Nat) = 4))) (y_pickT (b := decide ((bk (Par.mk 3 1 2 1) : Int) = 2)) (v := .bool (decide (((sl (Par.mk 3 1 2 1)) : Nat) = 4))) rfl (by decide +kernel) rfl) rfl ?_
 refine s_y (v := .bool (decide (((sl (Par.mk 3 1 2 1)) : Nat) = 4))) (y_assign rfl) rfl ?_
 refine wpL_nil ?_
 refine thenS_n ?_
 refine wpS_ret ?_
 refine fin1 (v := .bool (decide (((sl (Par.mk 3 1 2 1)) : Nat) = 4))) (.inr rfl) (.nil) Try.results137 rfl ?_
 exact fun w' hs => ⟨congrArg (fun b => Ending.returned (Value.bool b)) (show (decide (((sl (Par.mk 3 1 2 1)) : Nat) = 4)) = true from (by decide +kernel)), hs⟩
theorem sums_c (m : Nat) (w : World) (hm1 : 1 ≤ m) (hm2 : m ≤ 2) : Makes Try.prog 141 #[.int .i64 ((m : Nat) : Int)] w [] (X := (Option Addr × Nat) × Nat) (fun x => .agg #[.int .i64 ((m : Nat) : Int), .slice x.1.1 (m + 1) x.1.2, .slice (some ⟨x.2, 0, none⟩) 1 1, .slice none 0 0]) (fun x => [osl x.1.1 x.1.2 (m + 1) 6 86 ((smapL m).flatMap opcV), cel x.2 86 (sfoldL.flatMap opcV)]) (fun _ => True) := by
 refine calls_S (n := 24) (σ0 := (upd fr0 0 (.int .i64 (((m : Nat) : Int))))) (D := []) (A := []) Try.func141 rfl Try.ntmps141 rfl (a1_fr _) (SH.start w) ?_
 refine wpS_seq ?_
 refine wpS_region ?_
 refine s_e rfl ?_
 refine e_alloc (l := [.int .i64 0, .slice none 0 0, .slice none 0 0, .slice none 0 0]) Try.zeroValue84 rfl ?_
 intro b_1
 refine wpL_nil ?_
 refine thenS_n ?_
 refine wpS_seq ?_
 refine wpS_region ?_
 refine s_y (v := .int .i64 (((m : Nat) : Int))) (y_move rfl) rfl ?_
 refine s_y (v := .agg #[.int .i64 1, .int .i64 3, .int .i64 0, .int .i64 0, .int .i64 0, .int .i64 1]) (y_buildL (m := [(0, .int .i64 1), (1, .int .i64 3), (5, .int .i64 1)]) (vs := #[.int .i64 1, .int .i64 3, .int .i64 0, .int .i64 0, .int .i64 0, .int .i64 1]) (evc rfl (evc rfl (evc rfl evn))) (fun w => by kernel_rfl)) rfl ?_
 refine s_e rfl ?_
 refine e_bsliceL (e := 86) (m := [(0, .agg #[.int .i64 1, .int .i64 3, .int .i64 0, .int .i64 0, .int .i64 0, .int .i64 1])]) (l := [.int .i64 1, .int .i64 3, .int .i64 0, .int .i64 0, .int .i64 0, .int .i64 1]) (evc rfl evn) (fun w => by kernel_rfl) ?_
 intro b_2
 refine s_y (v := .agg #[.int .i64 2, .int .i64 0, .int .i64 0, .int .i64 1, .int .i64 0, .int .i64 0]) (y_buildL (m := [(0, .int .i64 2), (3, .int .i64 1)]) (vs := #[.int .i64 2, .int .i64 0, .int .i64 0, .int .i64 1, .int .i64 0, .int .i64 0]) (evc rfl (evc rfl evn)) (fun w => by kernel_rfl)) rfl ?_
 refine s_e rfl ?_
 refine e_bsliceL (e := 86) (m := [(0, .agg #[.int .i64 2, .int .i64 0, .int .i64 0, .int .i64 1, .int .i64 0, .int .i64 0])]) (l := [.int .i64 2, .int .i64 0, .int .i64 0, .int .i64 1, .int .i64 0, .int .i64 0]) (evc rfl evn) (fun w => by kernel_rfl) ?_
 intro b_3
 refine s_y (v := .agg #[.int .i64 (((m : Nat) : Int)), .slice (some ⟨b_2, 0, none⟩) 1 1, .slice (some ⟨b_3, 0, none⟩) 1 1, .slice none 0 0]) (y_buildL (m := [(0, .int .i64 (((m : Nat) : Int))), (1, .slice (some ⟨b_2, 0, none⟩) 1 1), (2, .slice (some ⟨b_3, 0, none⟩) 1 1)]) (vs := #[.int .i64 (((m : Nat) : Int)), .slice (some ⟨b_2, 0, none⟩) 1 1, .slice (some ⟨b_3, 0, none⟩) 1 1, .slice none 0 0]) (evc rfl (evc rfl (evc rfl evn))) (fun w => by kernel_rfl)) rfl ?_
 refine s_e rfl ?_
 refine e_alloc (l := [.int .i64 0, .slice none 0 0, .slice none 0 0, .slice none 0 0]) Try.zeroValue84 rfl ?_
 intro b_4
 refine s_e0 ?_
 refine e_store (vs := [.int .i64 (((m : Nat) : Int)), .slice (some ⟨b_2, 0, none⟩) 1 1, .slice (some ⟨b_3, 0, none⟩) 1 1, .slice none 0 0]) (l' := [.int .i64 (((m : Nat) : Int)), .slice (some ⟨b_2, 0, none⟩) 1 1, .slice (some ⟨b_3, 0, none⟩) 1 1, .slice none 0 0]) rfl rfl rfl rfl Try.sizeOf84 .h (Nat.le_of_ble_eq_true rfl) rfl ?_
 refine wpL_nil ?_
 refine thenS_n ?_
 refine wpS_seq ?_
 refine wpS_seq ?_
 refine wpS_region ?_
 refine s_y (v := .int .i64 0) (y_assign rfl) rfl ?_
 refine wpL_nil ?_
 refine thenS_n ?_
 refine wpS_block ?_
 refine wpS_sh (L' := [osl (some ⟨b_2, 0, none⟩) 1 1 6 86 (([(Opc.mk 1 3 0 0 0 1)] : List Opc).flatMap opcV), cel b_4 84 [.int .i64 (((m : Nat) : Int)), .slice (some ⟨b_2, 0, none⟩) 1 1, .slice (some ⟨b_3, 0, none⟩) 1 1, .slice none 0 0], cel b_3 86 [.int .i64 2, .int .i64 0, .int .i64 0, .int .i64 1, .int .i64 0, .int .i64 0], cel b_1 84 [.int .i64 0, .slice none 0 0, .slice none 0 0, .slice none 0 0]]) (fun w hs => SH.celO (n := 1) (sz := 6) (.t (.t .h)) rfl (by decide) w hs) ?_
 refine wpS_loop (fun mez ds σ L => ∃ i : Nat, ∃ xs : List Opc, ∃ xa : Option Addr, ∃ xc : Nat, mez = m - i ∧ (i ≤ m) ∧ (xs.length = i + 1) ∧ (xs = smapL i) ∧ ds = [] ∧ σ 0 = .int .i64 (((m : Nat) : Int)) ∧ σ 2 = .pointer (some ⟨b_1, 0, none⟩) ∧ σ 3 = .pointer (some ⟨b_4, 0, none⟩) ∧ σ 4 = .int .i64 (((i : Nat) : Int)) ∧ Ent L [osl xa xc xs.length 6 86 (xs.flatMap opcV), cel b_4 84 [.int .i64 (((m : Nat) : Int)), .slice xa xs.length xc, .slice (some ⟨b_3, 0, none⟩) 1 1, .slice none 0 0], cel b_3 86 [.int .i64 2, .int .i64 0, .int .i64 0, .int .i64 1, .int .i64 0, .int .i64 0], cel b_1 84 [.int .i64 0, .slice none 0 0, .slice none 0 0, .slice none 0 0]]) (m0 := m - 0) ⟨0, [(Opc.mk 1 3 0 0 0 1)], some ⟨b_2, 0, none⟩, 1, rfl, by omega, rfl, rfl, rfl, rfl, rfl, rfl, rfl, .p .h (.p .h (.p .h (.p .h .nil)))⟩ ?_
 rintro mez ds σ L ⟨i, xs, xa, xc, hm_5, hf0_5, hf1_5, hf2_5, rfl, h0_5, h2_5, h3_5, h4_5, hE_5⟩
 refine wpS_ent hE_5 ?_; clear hE_5
 refine wpS_seq ?_
 refine wpS_seq ?_
 refine wpS_region ?_
 refine s_y (v := .int .i64 (((i : Nat) : Int))) (y_move h4_5) rfl ?_
 refine s_y (v := .int .i64 (((m : Nat) : Int))) (y_move h0_5) rfl ?_
 refine s_y (v := .bool (decide (i < m))) (y_lss (a := ((i : Nat) : Int)) (b := ((m : Nat) : Int)) (c := decide (i < m)) rfl rfl (decide_eq_decide.2 (by omega))) rfl ?_
 refine wpL_nil ?_
 refine thenS_n ?_
 refine wpS_cond (t := decide (i < m)) rfl (fun b6 => ?_) (fun b6 => ?_)
 ·
  have p6 := of_decide_eq_true b6
  refine wpS_skip ?_
  refine thenS_n ?_
  refine wpS_seq ?_
  refine wpS_block ?_
  refine wpS_region ?_
  refine s_y (v := .pointer (some ⟨b_4, 1, none⟩)) (y_fieldAddr (o' := 1) h3_5 Try.underlying84 rfl Try.sizeOf82 (by decide) rfl) rfl ?_
  refine s_y (v := .slice xa xs.length xc) (y_load1 rfl Try.isAgg82 (own1 (.t .h) rfl)) rfl ?_
  refine s_y (v := .int .i64 (((i : Nat) : Int))) (y_move h4_5) rfl ?_
  refine s_y (v := .agg #[.int .i64 12, .int .i64 0, .int .i64 0, .int .i64 1, .int .i64 3, .int .i64 (((Int64.ofNat i)).toInt)]) (y_buildL (m := [(0, .int .i64 12), (2, .int .i64 0), (3, .int .i64 1), (4, .int .i64 3), (5, .int .i64 (((Int64.ofNat i)).toInt))]) (vs := #[.int .i64 12, .int .i64 0, .int .i64 0, .int .i64 1, .int .i64 3, .int .i64 (((Int64.ofNat i)).toInt)]) (evc rfl (evc rfl (evc rfl (evc rfl (evc (congrArg (Value.int .i64) (onat (n := i) (by omega))) evn))))) (fun w => by kernel_rfl)) rfl ?_
  refine s_e rfl ?_
  refine e_bsliceL (e := 86) (m := [(0, .agg #[.int .i64 12, .int .i64 0, .int .i64 0, .int .i64 1, .int .i64 3, .int .i64 (((Int64.ofNat i)).toInt)])]) (l := [.int .i64 12, .int .i64 0, .int .i64 0, .int .i64 1, .int .i64 3, .int .i64 (((Int64.ofNat i)).toInt)]) (evc rfl evn) (fun w => by kernel_rfl) ?_
  intro b_7
  refine s_e rfl ?_
  refine e_appendL (enc := opcV) (xs := (xs : List Opc)) (ns := ([(Opc.mk 12 0 0 1 3 (Int64.ofNat i))] : List Opc)) (zs := (xs ++ [(Opc.mk 12 0 0 1 3 (Int64.ofNat i))])) (bytes := 48) opcV_len opcV_one Try.underlying82 (i := Try.t86) rfl rfl rfl rfl rfl (by decide) rfl rfl (by first | rfl | omega) (by first | rfl | omega) (.t .h) (fun w hs => celR .h w hs) (by first | rfl | simp) (by (try simp only [List.length_append, List.length_cons, List.length_nil] at *); omega) (by (try simp only [List.length_append, List.length_cons, List.length_nil] at *); omega) ?_
  intro a_8 c_9
  refine s_y (v := .pointer (some ⟨b_4, 1, none⟩)) (y_fieldAddr (o' := 1) h3_5 Try.underlying84 rfl Try.sizeOf82 (by decide) rfl) rfl ?_
  refine s_e0 ?_
  refine e_store (vs := [.slice a_8 ((xs ++ [(Opc.mk 12 0 0 1 3 (Int64.ofNat i))]).length) c_9]) (l' := [.int .i64 (((m : Nat) : Int)), .slice a_8 ((xs ++ [(Opc.mk 12 0 0 1 3 (Int64.ofNat i))]).length) c_9, .slice (some ⟨b_3, 0, none⟩) 1 1, .slice none 0 0]) rfl rfl rfl rfl Try.sizeOf82 (.t (.t .h)) (Nat.le_of_ble_eq_true rfl) rfl ?_
  refine wpL_nil ?_
  refine blockS_n ?_
  refine thenS_n ?_
  refine wpS_region ?_
  refine s_y (v := .int .i64 (((i : Nat) : Int))) (y_move h4_5) rfl ?_
  refine s_y (v := .int .i64 ((((i + 1) : Nat) : Int))) (y_add (a := ((i : Nat) : Int)) (b := 1) (c := (((i + 1) : Nat) : Int)) rfl rfl (wI (by omega) (by omega) (by omega))) rfl ?_
  refine s_y (v := .int .i64 ((((i + 1) : Nat) : Int))) (y_assign rfl) rfl ?_
  refine wpL_nil ?_
  refine thenS_n ?_
  exact ⟨_, by omega, ⟨(i + 1), (xs ++ [(Opc.mk 12 0 0 1 3 (Int64.ofNat i))]), a_8, c_9, rfl, by omega, (by rw [List.length_append, List.length_singleton]; omega), (by rw [(by assumption : xs = _)]; exact smap_next i), rfl, h0_5, h2_5, h3_5, rfl, .p (.t .h) (.p .h (.p (.t .h) (.p (.t .h) .nil)))⟩⟩
 ·
  have p6 := of_decide_eq_false b6
  refine wpS_exit ?_
  refine thenS_x ?_
  refine thenS_x ?_
  refine blockS_h ?_
  refine thenS_n ?_
  refine wpS_seq ?_
  refine wpS_region ?_
  refine s_y (v := .agg #[.int .i64 (((m : Nat) : Int)), .slice xa xs.length xc, .slice (some ⟨b_3, 0, none⟩) 1 1, .slice none 0 0]) (y_loadN (vs := [.int .i64 (((m : Nat) : Int)), .slice xa xs.length xc, .slice (some ⟨b_3, 0, none⟩) 1 1, .slice none 0 0]) h3_5 Try.isAgg84 Try.sizeOf84 (ownN (.t .h) rfl)) rfl ?_
  refine s_e0 ?_
  refine e_store (vs := [.int .i64 (((m : Nat) : Int)), .slice xa xs.length xc, .slice (some ⟨b_3, 0, none⟩) 1 1, .slice none 0 0]) (l' := [.int .i64 (((m : Nat) : Int)), .slice xa xs.length xc, .slice (some ⟨b_3, 0, none⟩) 1 1, .slice none 0 0]) h2_5 rfl rfl rfl Try.sizeOf84 (.t (.t (.t .h))) (Nat.le_of_ble_eq_true rfl) rfl ?_
  refine wpL_nil ?_
  refine thenS_n ?_
  refine wpS_ret ?_
  refine fin1' (M := [cel b_1 84 [.int .i64 (((m : Nat) : Int)), .slice xa xs.length xc, .slice (some ⟨b_3, 0, none⟩) 1 1, .slice none 0 0], osl xa xc xs.length 6 86 (xs.flatMap opcV), cel b_3 86 [.int .i64 2, .int .i64 0, .int .i64 0, .int .i64 1, .int .i64 0, .int .i64 0]]) (.inr rfl) (.p .h (.p .h (.p (.t .h) .nil))) Try.results141 (rvC (vs := [.int .i64 (((m : Nat) : Int)), .slice xa xs.length xc, .slice (some ⟨b_3, 0, none⟩) 1 1, .slice none 0 0]) h2_5 Try.isAgg84 Try.sizeOf84 (fun w hs => ownN .h rfl w hs)) ?_
  have e1 : xs = smapL m := by have h := (by assumption : xs = smapL i); rw [show i = m by omega] at h; exact h
  have e2 : xs.length = m + 1 := by rw [e1, smap_len]
  exact fun w' hs => ⟨((xa, xc), b_3), by rw [e2], by have hs2 := hs.ent (.p (.t .h) (.p (.t .h) .nil)); rw [e2, e1] at hs2; exact hs2, trivial⟩
end Go.Proofs.Ytldkjjnjdjfipaa
namespace Go.Proofs.Ytldkjjnjdjfipaa
open Go Go.RowKit
set_option linter.unusedVariables false
set_option linter.unusedSimpArgs false
set_option maxRecDepth 10000
set_option maxHeartbeats 1000000
theorem ok_small {R S : Nat} (h1 : 1 ≤ R) (h2 : R ≤ 7) (h3 : 1 ≤ S) (h4 : S ≤ 8) : ok ⟨R, (1 : Nat), S, 1⟩ = true := by
  unfold ok
  have hq := Int.ediv_le_self (S : Int) (show (0 : Int) ≤ (R : Int) - 1 by omega)
  refine decide_eq_true ?_
  simp only []
  unfold cdv
  omega
theorem porder_law (a0 : Option Addr) (n0 c0 : Nat) (li : List Pr) (a1 : Option Addr) (n1 c1 : Nat) (tu : List Int) (blk : Int) (blk1 : -9223372036854775808 ≤ blk) (blk2 : blk < 9223372036854775808) (w : World) (hn0 : li.length = n0) (hr0 : Rds w a0 (li.flatMap prV)) (hn1 : tu.length = n1) (hr1 : Rds w a1 (tu.flatMap intV)) : Pure Try.prog 39 #[.slice a0 n0 c0, .slice a1 n1 c1, .int .i64 blk] w (.bool true) := by
 refine calls_S (n := 102) (σ0 := (upd (upd (upd fr0 0 (.slice a0 n0 c0)) 1 (.slice a1 n1 c1)) 2 (.int .i64 blk))) (D := []) (A := []) Try.func39 rfl Try.ntmps39 rfl (a3_fr _ _ _) (SH.start w) ?_
 refine wpS_seq ?_
 refine wpS_region ?_
 refine s_y (v := .bool false) (y_assign rfl) rfl ?_
 refine wpL_nil ?_
 refine thenS_n ?_
 refine wpS_seq ?_
 refine wpS_seq ?_
 refine wpS_region ?_
 refine s_y (v := .slice a0 n0 c0) (y_move rfl) rfl ?_
 refine s_y (v := .int .i64 (((n0 : Nat) : Int))) (y_len (ty' := 0) (at_ := #[]) rfl Try.underlying153) rfl ?_
 refine s_y (v := .bool (decide ((n0 : Nat) = 0))) (y_eql (a := ((n0 : Nat) : Int)) (b := 0) (c := decide ((n0 : Nat) = 0)) rfl rfl (decide_eq_decide.2 (by omega))) rfl ?_
 refine s_y (v := .bool (decide ((n0 : Nat) = 0))) (y_move rfl) rfl ?_
 rcases Bool.eq_false_or_eq_true (decide ((n0 : Nat) = 0)) with b1 | b1
 ·
  have p1 := of_decide_eq_true b1
  refine s_no rfl rfl rfl rfl (b' := decide ((n0 : Nat) = 0)) rfl b1 ?_
  refine s_no rfl rfl rfl rfl (b' := decide ((n0 : Nat) = 0)) rfl b1 ?_
  refine s_no rfl rfl rfl rfl (b' := decide ((n0 : Nat) = 0)) rfl b1 ?_
  refine s_y (v := .bool true) (y_pickT (b := decide ((n0 : Nat) = 0)) (v := .bool true) rfl b1 rfl) rfl ?_
  refine wpL_nil ?_
  refine thenS_n ?_
  refine wpS_cond_t rfl ?_
  refine wpS_seq ?_
  refine wpS_region ?_
  refine s_y (v := .bool true) (y_call (args := #[]) (v := .bool true) Try.call137 ev0 (fun w hs => awake16_c w)) rfl ?_
  refine s_y (v := .bool true) (y_assign rfl) rfl ?_
  refine wpL_nil ?_
  refine thenS_n ?_
  refine wpS_ret ?_
  refine thenS_r ?_
  refine fin1 (v := .bool true) (.inr rfl) (.nil) Try.results39 rfl ?_
  exact fun w' hs => ⟨rfl, hs⟩
 ·
  have p1 := of_decide_eq_false b1
  refine s_gy (y_move rfl) rfl rfl rfl rfl (b' := decide ((n0 : Nat) = 0)) rfl b1 ?_
  refine s_gy (y_len (ty' := 0) (at_ := #[]) rfl Try.underlying153) rfl rfl rfl rfl (b' := decide ((n0 : Nat) = 0)) rfl b1 ?_
  refine s_gy (y_gtr (a := ((n0 : Nat) : Int)) (b := 7) (c := decide ((7 : Nat) < n0)) rfl rfl (decide_eq_decide.2 (by omega))) rfl rfl rfl rfl (b' := decide ((n0 : Nat) = 0)) rfl b1 ?_
  refine s_y (v := .bool (decide ((7 : Nat) < n0))) (y_pickF (b := decide ((n0 : Nat) = 0)) (v := .bool (decide ((7 : Nat) < n0))) rfl b1 rfl) rfl ?_
  refine wpL_nil ?_
  refine thenS_n ?_
  refine wpS_cond (t := decide ((7 : Nat) < n0)) rfl (fun b2 => ?_) (fun b2 => ?_)
  ·
   have p2 := of_decide_eq_true b2
   refine wpS_seq ?_
   refine wpS_region ?_
   refine s_y (v := .bool true) (y_call (args := #[]) (v := .bool true) Try.call137 ev0 (fun w hs => awake16_c w)) rfl ?_
   refine s_y (v := .bool true) (y_assign rfl) rfl ?_
   refine wpL_nil ?_
   refine thenS_n ?_
   refine wpS_ret ?_
   refine thenS_r ?_
   refine fin1 (v := .bool true) (.inr rfl) (.nil) Try.results39 rfl ?_
   exact fun w' hs => ⟨rfl, hs⟩
  ·
   have p2 := of_decide_eq_false b2
   have hub : u64of blk % 3 < 3 := Nat.mod_lt _ (by decide)
   have hck1 : chkB ((1 : Nat) : Int) (smapL 1) sfoldL [] = true := sums_ok (by decide) (by decide)
   obtain ⟨nb, K, hj⟩ := jp_of (R := n0) (m := 1) (S := (1 + u64of blk % 3)) (W := 1) (ok_small (by omega) (by omega) (by omega) (by omega))
   refine wpS_skip ?_
   refine thenS_n ?_
   refine wpS_seq ?_
   refine wpS_region ?_
   refine s_y (v := .slice a0 n0 c0) (y_move rfl) rfl ?_
   refine s_y (v := .int .i64 (((n0 : Nat) : Int))) (y_len (ty' := 0) (at_ := #[]) rfl Try.underlying153) rfl ?_
   refine s_y (v := .int .i64 blk) (y_move rfl) rfl ?_
   refine s_y (v := .int .u64 ((((u64of blk) : Nat) : Int))) (y_convI (a := blk) (c := (((u64of blk) : Nat) : Int)) rfl Try.underlying3 Try.underlying46 (u64of_wrap _)) rfl ?_
   refine s_y (v := .int .u64 (((((u64of blk) % 3) : Nat) : Int))) (y_rem (a := (((u64of blk) : Nat) : Int)) (b := 3) (c := ((((u64of blk) % 3) : Nat) : Int)) rfl rfl (by omega) (n_rem _ 3 (by omega))) rfl ?_
   refine s_y (v := .int .i64 (((((u64of blk) % 3) : Nat) : Int))) (y_convI (a := ((((u64of blk) % 3) : Nat) : Int)) (c := ((((u64of blk) % 3) : Nat) : Int)) rfl Try.underlying46 Try.underlying3 (wI rfl (by omega) (by omega))) rfl ?_
   refine s_y (v := .int .i64 ((((1 + ((u64of blk) % 3)) : Nat) : Int))) (y_add (a := 1) (b := ((((u64of blk) % 3) : Nat) : Int)) (c := (((1 + ((u64of blk) % 3)) : Nat) : Int)) rfl rfl (wI (by omega) (by omega) (by omega))) rfl ?_
   refine s_y (v := .agg #[.int .i64 (((n0 : Nat) : Int)), .int .i64 1, .int .i64 ((((1 + ((u64of blk) % 3)) : Nat) : Int)), .int .i64 1]) (y_buildL (m := [(0, .int .i64 (((n0 : Nat) : Int))), (1, .int .i64 1), (2, .int .i64 ((((1 + ((u64of blk) % 3)) : Nat) : Int))), (3, .int .i64 1)]) (vs := #[.int .i64 (((n0 : Nat) : Int)), .int .i64 1, .int .i64 ((((1 + ((u64of blk) % 3)) : Nat) : Int)), .int .i64 1]) (evc rfl (evc rfl (evc rfl (evc rfl evn)))) (fun w => by kernel_rfl)) rfl ?_
   refine s_e rfl ?_
   refine e_alloc (l := [.int .i64 0, .int .i64 0, .int .i64 0, .int .i64 0]) Try.zeroValue53 rfl ?_
   intro b_3
   refine s_e0 ?_
   refine e_store (vs := [.int .i64 (((n0 : Nat) : Int)), .int .i64 1, .int .i64 ((((1 + ((u64of blk) % 3)) : Nat) : Int)), .int .i64 1]) (l' := [.int .i64 (((n0 : Nat) : Int)), .int .i64 1, .int .i64 ((((1 + ((u64of blk) % 3)) : Nat) : Int)), .int .i64 1]) rfl rfl rfl rfl Try.sizeOf53 .h (Nat.le_of_ble_eq_true rfl) rfl ?_
   refine wpL_nil ?_
   refine thenS_n ?_
   refine wpS_seq ?_
   refine wpS_region ?_
   refine s_y (v := .slice a0 n0 c0) (y_move rfl) rfl ?_
   refine s_e rfl ?_
   refine OpE.ent (fun w hs => SH.nil0 (sz := 2) (t := 89) w hs) ?_
   refine e_appendL (enc := prV) (xs := ([] : List Pr)) (ns := (li : List Pr)) (zs := li) (bytes := 16) prV_len prV_one Try.underlying153 (i := Try.t89) rfl rfl rfl rfl rfl (by decide) rfl rfl (by first | rfl | omega) hn0.symm .h (oldR hr0) (List.nil_append _) (by omega) (by omega) ?_
   intro a_4 c_5
   refine s_y (v := .slice a_4 li.length c_5) (y_assign rfl) rfl ?_
   refine wpL_nil ?_
   refine thenS_n ?_
   refine wpS_seq ?_
   refine wpS_seq ?_
   refine wpS_region ?_
   refine s_y (v := .int .i64 0) (y_assign rfl) rfl ?_
   refine wpL_nil ?_
   refine thenS_n ?_
   refine wpS_block ?_
   refine wpS_loop (fun mez ds σ L => ∃ i : Nat, ∃ ys : List Pr, mez = 20 - i ∧ (i ≤ 20) ∧ (ys.length = n0) ∧ (ys.Perm li) ∧ ds = [] ∧ σ 0 = .slice a0 n0 c0 ∧ σ 1 = .slice a1 n1 c1 ∧ σ 7 = .pointer (some ⟨b_3, 0, none⟩) ∧ σ 8 = .slice a_4 li.length c_5 ∧ σ 9 = .int .i64 (((i : Nat) : Int)) ∧ Ent L [osl a_4 c_5 li.length 2 89 (ys.flatMap prV), cel b_3 53 [.int .i64 (((n0 : Nat) : Int)), .int .i64 1, .int .i64 ((((1 + ((u64of blk) % 3)) : Nat) : Int)), .int .i64 1]]) (m0 := 20 - 0) ⟨0, li, rfl, by omega, hn0, (List.Perm.refl _), rfl, rfl, rfl, rfl, rfl, rfl, .p .h (.p .h .nil)⟩ ?_
   rintro mez ds σ L ⟨i, ys, hm_6, hf0_6, hf1_6, hf2_6, rfl, h0_6, h1_6, h7_6, h8_6, h9_6, hE_6⟩
   refine wpS_ent hE_6 ?_; clear hE_6
   have hki : (u64of (tu.getD i default) % li.length) < li.length := Nat.mod_lt _ (by omega)
   have hii : i % li.length < li.length := Nat.mod_lt _ (by omega)
   refine wpS_seq ?_
   refine wpS_seq ?_
   refine wpS_region ?_
   refine s_y (v := .int .i64 (((i : Nat) : Int))) (y_move h9_6) rfl ?_
   refine s_y (v := .slice a1 n1 c1) (y_move h1_6) rfl ?_
   refine s_y (v := .int .i64 (((n1 : Nat) : Int))) (y_len (ty' := 0) (at_ := #[]) rfl Try.underlying39) rfl ?_
   refine s_y (v := .bool (decide (i < n1))) (y_lss (a := ((i : Nat) : Int)) (b := ((n1 : Nat) : Int)) (c := decide (i < n1)) rfl rfl (decide_eq_decide.2 (by omega))) rfl ?_
   refine s_y (v := .bool (decide (i < n1))) (y_move rfl) rfl ?_
   rcases Bool.eq_false_or_eq_true (decide (i < n1)) with b7 | b7
   ·
    have p7 := of_decide_eq_true b7
    refine s_gy (y_move h9_6) rfl rfl rfl rfl (b' := decide (i < n1)) rfl b7 ?_
    refine s_gy (y_lss (a := ((i : Nat) : Int)) (b := 20) (c := decide ((i : Nat) < 20)) rfl rfl (decide_eq_decide.2 (by omega))) rfl rfl rfl rfl (b' := decide (i < n1)) rfl b7 ?_
    refine s_y (v := .bool (decide ((i : Nat) < 20))) (y_pickT (b := decide (i < n1)) (v := .bool (decide ((i : Nat) < 20))) rfl b7 rfl) rfl ?_
    refine wpL_nil ?_
    refine thenS_n ?_
    refine wpS_cond (t := decide ((i : Nat) < 20)) rfl (fun b8 => ?_) (fun b8 => ?_)
    ·
     have p8 := of_decide_eq_true b8
     refine wpS_skip ?_
     refine thenS_n ?_
     refine wpS_seq ?_
     refine wpS_block ?_
     refine wpS_seq ?_
     refine wpS_region ?_
     refine s_y (v := .slice a1 n1 c1) (y_move h1_6) rfl ?_
     refine s_y (v := .int .i64 (((i : Nat) : Int))) (y_move h9_6) rfl ?_
     refine s_y (v := .pointer (some ⟨aB a1, aO a1 + i * 1, none⟩)) (y_idx (o := i * 1) rfl rfl Try.underlying39 Try.sizeOf3 (oldR hr1) ((fl_len intV_len _).trans (by first | omega | (simp only [List.length_set, List.length_take, List.length_drop]; done) | (simp only [List.length_set, List.length_take, List.length_drop]; omega))) (by decide) (by omega) (by omega) (by omega)) rfl ?_
     refine s_y (v := .int .i64 ((tu.getD i default))) (y_load1 (v := .int .i64 ((tu.getD i default))) rfl Try.isAgg3 (rd1 (k := i * 1) (oldR hr1) (fl_get0 intV_len tu i (by first | omega | (simp only [List.length_set, List.length_take, List.length_drop]; done) | (simp only [List.length_set, List.length_take, List.length_drop]; omega)) rfl))) rfl ?_
     refine s_y (v := .int .u64 ((((u64of (tu.getD i default)) : Nat) : Int))) (y_convI (a := (tu.getD i default)) (c := (((u64of (tu.getD i default)) : Nat) : Int)) rfl Try.underlying3 Try.underlying46 (u64of_wrap _)) rfl ?_
     refine s_y (v := .slice a_4 li.length c_5) (y_move h8_6) rfl ?_
     refine s_y (v := .int .i64 (((li.length : Nat) : Int))) (y_len (ty' := 0) (at_ := #[]) rfl Try.underlying153) rfl ?_
     refine s_y (v := .int .u64 (((li.length : Nat) : Int))) (y_convI (a := ((li.length : Nat) : Int)) (c := ((li.length : Nat) : Int)) rfl Try.underlying3 Try.underlying46 (wU rfl (by omega) (by omega))) rfl ?_
     refine s_y (v := .int .u64 (((((u64of (tu.getD i default)) % li.length) : Nat) : Int))) (y_rem (a := (((u64of (tu.getD i default)) : Nat) : Int)) (b := ((li.length : Nat) : Int)) (c := ((((u64of (tu.getD i default)) % li.length) : Nat) : Int)) rfl rfl (by omega) (n_rem _ li.length (by omega))) rfl ?_
     refine s_y (v := .int .i64 (((((u64of (tu.getD i default)) % li.length) : Nat) : Int))) (y_convI (a := ((((u64of (tu.getD i default)) % li.length) : Nat) : Int)) (c := ((((u64of (tu.getD i default)) % li.length) : Nat) : Int)) rfl Try.underlying46 Try.underlying3 (wI rfl (by omega) (by omega))) rfl ?_
     refine s_y (v := .int .i64 (((((u64of (tu.getD i default)) % li.length) : Nat) : Int))) (y_assign rfl) rfl ?_
     refine wpL_nil ?_
     refine thenS_n ?_
     refine wpS_anyL [osl a_4 c_5 li.length 2 89 (ys.flatMap prV)] [5, 6, 19, 20, 21] (by kernel_rfl) ?_
     refine anyS_takeF (i := 5) rfl (by kernel_rfl) (by kernel_rfl) (by kernel_rfl) (by kernel_rfl) (Yq.of (v := .slice a_4 li.length c_5) (y_move h8_6) rfl) ?_
     refine anyS_takeF (i := 6) rfl (by kernel_rfl) (by kernel_rfl) (by kernel_rfl) (by kernel_rfl) (Yq.of (v := .int .i64 (((((u64of (tu.getD i default)) % li.length) : Nat) : Int))) (y_move rfl) rfl) ?_
     refine anyS_take (i := 0) rfl (by kernel_rfl) (by kernel_rfl) (by kernel_rfl) (by kernel_rfl) (Yq.of (v := .slice a_4 li.length c_5) (y_move h8_6) rfl) (.p .h .nil) ?_
     refine anyS_take (i := 1) rfl (by kernel_rfl) (by kernel_rfl) (by kernel_rfl) (by kernel_rfl) (Yq.of (v := .int .i64 (((i : Nat) : Int))) (y_move h9_6) rfl) (.p .h .nil) ?_
     refine anyS_take (i := 2) rfl (by kernel_rfl) (by kernel_rfl) (by kernel_rfl) (by kernel_rfl) (Yq.of (v := .slice a_4 li.length c_5) (y_move h8_6) rfl) (.p .h .nil) ?_
     refine anyS_take (i := 3) rfl (by kernel_rfl) (by kernel_rfl) (by kernel_rfl) (by kernel_rfl) (Yq.of (v := .int .i64 (((li.length : Nat) : Int))) (y_len (ty' := 0) (at_ := #[]) rfl Try.underlying153) rfl) (.p .h .nil) ?_
     refine anyS_take (i := 4) rfl (by kernel_rfl) (by kernel_rfl) (by kernel_rfl) (by kernel_rfl) (Yq.of (v := .int .i64 ((((i % li.length) : Nat) : Int))) (y_rem (a := ((i : Nat) : Int)) (b := ((li.length : Nat) : Int)) (c := (((i % li.length) : Nat) : Int)) rfl rfl (by omega) (n_rem _ li.length (by omega))) rfl) (.p .h .nil) ?_
     refine anyS_take (i := 7) rfl (by kernel_rfl) (by kernel_rfl) (by kernel_rfl) (by kernel_rfl) (Yq.of (v := .slice a_4 li.length c_5) (y_move h8_6) rfl) (.p .h .nil) ?_
     refine anyS_take (i := 8) rfl (by kernel_rfl) (by kernel_rfl) (by kernel_rfl) (by kernel_rfl) (Yq.of (v := .int .i64 (((((u64of (tu.getD i default)) % li.length) : Nat) : Int))) (y_move rfl) rfl) (.p .h .nil) ?_
     refine anyS_take (i := 9) rfl (by kernel_rfl) (by kernel_rfl) (by kernel_rfl) (by kernel_rfl) (Yq.of (v := .pointer (some ⟨aB a_4, aO a_4 + ((u64of (tu.getD i default)) % li.length) * 2, none⟩)) (y_idx (o := ((u64of (tu.getD i default)) % li.length) * 2) rfl rfl Try.underlying153 Try.sizeOf89 (oslR .h) ((fl_len prV_len _).trans (by first | omega | (simp only [List.length_set, List.length_take, List.length_drop]; done) | (simp only [List.length_set, List.length_take, List.length_drop]; omega))) (by decide) (by omega) (by omega) (by omega)) rfl) (.p .h .nil) ?_
     refine anyS_take (i := 10) rfl (by kernel_rfl) (by kernel_rfl) (by kernel_rfl) (by kernel_rfl) (Yq.of (v := .agg #[.int .i64 (((ys.getD ((u64of (tu.getD i default)) % li.length) default).1).toInt), .int .i64 (((ys.getD ((u64of (tu.getD i default)) % li.length) default).2).toInt)]) (y_loadN (vs := prV (ys.getD ((u64of (tu.getD i default)) % li.length) default)) rfl Try.isAgg89 Try.sizeOf89 (rdN (oslR .h) (fl_getN prV_len ys ((u64of (tu.getD i default)) % li.length) (by first | omega | (simp only [List.length_set, List.length_take, List.length_drop]; done) | (simp only [List.length_set, List.length_take, List.length_drop]; omega))))) rfl) (.p .h .nil) ?_
     refine anyS_take (i := 11) rfl (by kernel_rfl) (by kernel_rfl) (by kernel_rfl) (by kernel_rfl) (Yq.of (v := .slice a_4 li.length c_5) (y_move h8_6) rfl) (.p .h .nil) ?_
     refine anyS_all (rs := [12, 13]) (by kernel_rfl) (by simp) ?_
     intro i hi9; simp only [List.mem_cons, List.not_mem_nil, or_false] at hi9; rcases hi9 with rfl | rfl
     ·
      refine opS_0 rfl rfl ?_
      refine OpE.y (v := .int .i64 (((i : Nat) : Int))) (y_move h9_6) ?_
      refine ⟨.inr (.p .h .nil), ?_⟩
      refine anyS_all (rs := [13]) (by kernel_rfl) (by simp) ?_
      intro i hi; obtain rfl := List.mem_singleton.1 hi; clear hi
      refine opS_0 rfl rfl ?_
      refine OpE.y (v := .slice a_4 li.length c_5) (y_move h8_6) ?_
      refine ⟨.inr (.p .h .nil), ?_⟩
      refine anyS_all (rs := [14]) (by kernel_rfl) (by simp) ?_
      intro i hi; obtain rfl := List.mem_singleton.1 hi; clear hi
      refine opS_0 rfl rfl ?_
      refine OpE.y (v := .int .i64 (((li.length : Nat) : Int))) (y_len (ty' := 0) (at_ := #[]) rfl Try.underlying153) ?_
      refine ⟨.inr (.p .h .nil), ?_⟩
      refine anyS_take (i := 15) rfl (by kernel_rfl) (by kernel_rfl) (by kernel_rfl) (by kernel_rfl) (Yq.of (v := .int .i64 ((((i % li.length) : Nat) : Int))) (y_rem (a := ((i : Nat) : Int)) (b := ((li.length : Nat) : Int)) (c := (((i % li.length) : Nat) : Int)) rfl rfl (by omega) (n_rem _ li.length (by omega))) rfl) (.p .h .nil) ?_
      refine anyS_take (i := 16) rfl (by kernel_rfl) (by kernel_rfl) (by kernel_rfl) (by kernel_rfl) (Yq.of (v := .pointer (some ⟨aB a_4, aO a_4 + (i % li.length) * 2, none⟩)) (y_idx (o := (i % li.length) * 2) rfl rfl Try.underlying153 Try.sizeOf89 (oslR .h) ((fl_len prV_len _).trans (by first | omega | (simp only [List.length_set, List.length_take, List.length_drop]; done) | (simp only [List.length_set, List.length_take, List.length_drop]; omega))) (by decide) (by omega) (by omega) (by omega)) rfl) (.p .h .nil) ?_
      refine anyS_take (i := 17) rfl (by kernel_rfl) (by kernel_rfl) (by kernel_rfl) (by kernel_rfl) (Yq.of (v := .agg #[.int .i64 (((ys.getD (i % li.length) default).1).toInt), .int .i64 (((ys.getD (i % li.length) default).2).toInt)]) (y_loadN (vs := prV (ys.getD (i % li.length) default)) rfl Try.isAgg89 Try.sizeOf89 (rdN (oslR .h) (fl_getN prV_len ys (i % li.length) (by first | omega | (simp only [List.length_set, List.length_take, List.length_drop]; done) | (simp only [List.length_set, List.length_take, List.length_drop]; omega))))) rfl) (.p .h .nil) ?_
      refine anyS_take (i := 18) rfl (by kernel_rfl) (by kernel_rfl) (by kernel_rfl) (by kernel_rfl) (Yq.of (v := .pointer (some ⟨aB a_4, aO a_4 + (i % li.length) * 2, none⟩)) (y_idx (o := (i % li.length) * 2) rfl rfl Try.underlying153 Try.sizeOf89 (oslR .h) ((fl_len prV_len _).trans (by first | omega | (simp only [List.length_set, List.length_take, List.length_drop]; done) | (simp only [List.length_set, List.length_take, List.length_drop]; omega))) (by decide) (by omega) (by omega) (by omega)) rfl) (.p .h .nil) ?_
      refine anyS_all (rs := [19]) (by kernel_rfl) (by simp) ?_
      intro i hi; obtain rfl := List.mem_singleton.1 hi; clear hi
      refine opS_0 rfl rfl ?_
      refine e_storeL (enc := prV) (xs := ys) (y := (ys.getD ((u64of (tu.getD i default)) % li.length) default)) prV_len prV_one (by decide) rfl rfl rfl Try.sizeOf89 .h (by (try simp only [List.length_set]); omega) ?_
      refine ⟨.inl (by simp), ?_⟩
      refine anyS_all (rs := [20]) (by kernel_rfl) (by simp) ?_
      intro i hi; obtain rfl := List.mem_singleton.1 hi; clear hi
      refine opS_0 rfl rfl ?_
      refine OpE.y (v := .pointer (some ⟨aB a_4, aO a_4 + ((u64of (tu.getD i default)) % li.length) * 2, none⟩)) (y_idx (o := ((u64of (tu.getD i default)) % li.length) * 2) rfl rfl Try.underlying153 Try.sizeOf89 (oslR .h) ((fl_len prV_len _).trans (by first | omega | (simp only [List.length_set, List.length_take, List.length_drop]; done) | (simp only [List.length_set, List.length_take, List.length_drop]; omega))) (by decide) (by omega) (by omega) (by omega)) ?_
      refine ⟨.inl (by simp), ?_⟩
      refine anyS_all (rs := [21]) (by kernel_rfl) (by simp) ?_
      intro i hi; obtain rfl := List.mem_singleton.1 hi; clear hi
      refine opS_0 rfl rfl ?_
      refine e_storeL (enc := prV) (xs := (ys.set (i % li.length) (ys.getD ((u64of (tu.getD i default)) % li.length) default))) (y := (ys.getD (i % li.length) default)) prV_len prV_one (by decide) rfl rfl rfl Try.sizeOf89 .h (by (try simp only [List.length_set]); omega) ?_
      refine ⟨.inl (by simp), ?_⟩
      refine anyS_done (by kernel_rfl) ?_
      refine blockS_n ?_
      refine thenS_n ?_
      refine wpS_region ?_
      refine s_y (v := .int .i64 (((i : Nat) : Int))) (y_move h9_6) rfl ?_
      refine s_y (v := .int .i64 ((((i + 1) : Nat) : Int))) (y_add (a := ((i : Nat) : Int)) (b := 1) (c := (((i + 1) : Nat) : Int)) rfl rfl (wI (by omega) (by omega) (by omega))) rfl ?_
      refine s_y (v := .int .i64 ((((i + 1) : Nat) : Int))) (y_assign rfl) rfl ?_
      refine wpL_nil ?_
      refine thenS_n ?_
      exact ⟨_, by omega, ⟨(i + 1), ((ys.set (i % li.length) (ys.getD ((u64of (tu.getD i default)) % li.length) default)).set ((u64of (tu.getD i default)) % li.length) (ys.getD (i % li.length) default)), rfl, by omega, (by rw [List.length_set, List.length_set]; assumption), ((swap_perm (by omega) (by omega)).trans (by assumption)), rfl, h0_6, h1_6, h7_6, h8_6, rfl, .p .h (.p .h .nil)⟩⟩
     ·
      refine opS_0 rfl rfl ?_
      refine OpE.y (v := .slice a_4 li.length c_5) (y_move h8_6) ?_
      refine ⟨.inr (.p .h .nil), ?_⟩
      refine anyS_all (rs := [12, 14]) (by kernel_rfl) (by simp) ?_
      intro i hi10; simp only [List.mem_cons, List.not_mem_nil, or_false] at hi10; rcases hi10 with rfl | rfl
      ·
       refine opS_0 rfl rfl ?_
       refine OpE.y (v := .int .i64 (((i : Nat) : Int))) (y_move h9_6) ?_
       refine ⟨.inr (.p .h .nil), ?_⟩
       refine anyS_all (rs := [14]) (by kernel_rfl) (by simp) ?_
       intro i hi; obtain rfl := List.mem_singleton.1 hi; clear hi
       refine opS_0 rfl rfl ?_
       refine OpE.y (v := .int .i64 (((li.length : Nat) : Int))) (y_len (ty' := 0) (at_ := #[]) rfl Try.underlying153) ?_
       refine ⟨.inr (.p .h .nil), ?_⟩
       refine anyS_take (i := 15) rfl (by kernel_rfl) (by kernel_rfl) (by kernel_rfl) (by kernel_rfl) (Yq.of (v := .int .i64 ((((i % li.length) : Nat) : Int))) (y_rem (a := ((i : Nat) : Int)) (b := ((li.length : Nat) : Int)) (c := (((i % li.length) : Nat) : Int)) rfl rfl (by omega) (n_rem _ li.length (by omega))) rfl) (.p .h .nil) ?_
       refine anyS_take (i := 16) rfl (by kernel_rfl) (by kernel_rfl) (by kernel_rfl) (by kernel_rfl) (Yq.of (v := .pointer (some ⟨aB a_4, aO a_4 + (i % li.length) * 2, none⟩)) (y_idx (o := (i % li.length) * 2) rfl rfl Try.underlying153 Try.sizeOf89 (oslR .h) ((fl_len prV_len _).trans (by first | omega | (simp only [List.length_set, List.length_take, List.length_drop]; done) | (simp only [List.length_set, List.length_take, List.length_drop]; omega))) (by decide) (by omega) (by omega) (by omega)) rfl) (.p .h .nil) ?_
       refine anyS_take (i := 17) rfl (by kernel_rfl) (by kernel_rfl) (by kernel_rfl) (by kernel_rfl) (Yq.of (v := .agg #[.int .i64 (((ys.getD (i % li.length) default).1).toInt), .int .i64 (((ys.getD (i % li.length) default).2).toInt)]) (y_loadN (vs := prV (ys.getD (i % li.length) default)) rfl Try.isAgg89 Try.sizeOf89 (rdN (oslR .h) (fl_getN prV_len ys (i % li.length) (by first | omega | (simp only [List.length_set, List.length_take, List.length_drop]; done) | (simp only [List.length_set, List.length_take, List.length_drop]; omega))))) rfl) (.p .h .nil) ?_
       refine anyS_take (i := 18) rfl (by kernel_rfl) (by kernel_rfl) (by kernel_rfl) (by kernel_rfl) (Yq.of (v := .pointer (some ⟨aB a_4, aO a_4 + (i % li.length) * 2, none⟩)) (y_idx (o := (i % li.length) * 2) rfl rfl Try.underlying153 Try.sizeOf89 (oslR .h) ((fl_len prV_len _).trans (by first | omega | (simp only [List.length_set, List.length_take, List.length_drop]; done) | (simp only [List.length_set, List.length_take, List.length_drop]; omega))) (by decide) (by omega) (by omega) (by omega)) rfl) (.p .h .nil) ?_
       refine anyS_all (rs := [19]) (by kernel_rfl) (by simp) ?_
       intro i hi; obtain rfl := List.mem_singleton.1 hi; clear hi
       refine opS_0 rfl rfl ?_
       refine e_storeL (enc := prV) (xs := ys) (y := (ys.getD ((u64of (tu.getD i default)) % li.length) default)) prV_len prV_one (by decide) rfl rfl rfl Try.sizeOf89 .h (by (try simp only [List.length_set]); omega) ?_
       refine ⟨.inl (by simp), ?_⟩
       refine anyS_all (rs := [20]) (by kernel_rfl) (by simp) ?_
       intro i hi; obtain rfl := List.mem_singleton.1 hi; clear hi
       refine opS_0 rfl rfl ?_
       refine OpE.y (v := .pointer (some ⟨aB a_4, aO a_4 + ((u64of (tu.getD i default)) % li.length) * 2, none⟩)) (y_idx (o := ((u64of (tu.getD i default)) % li.length) * 2) rfl rfl Try.underlying153 Try.sizeOf89 (oslR .h) ((fl_len prV_len _).trans (by first | omega | (simp only [List.length_set, List.length_take, List.length_drop]; done) | (simp only [List.length_set, List.length_take, List.length_drop]; omega))) (by decide) (by omega) (by omega) (by omega)) ?_
       refine ⟨.inl (by simp), ?_⟩
       refine anyS_all (rs := [21]) (by kernel_rfl) (by simp) ?_
       intro i hi; obtain rfl := List.mem_singleton.1 hi; clear hi
       refine opS_0 rfl rfl ?_
       refine e_storeL (enc := prV) (xs := (ys.set (i % li.length) (ys.getD ((u64of (tu.getD i default)) % li.length) default))) (y := (ys.getD (i % li.length) default)) prV_len prV_one (by decide) rfl rfl rfl Try.sizeOf89 .h (by (try simp only [List.length_set]); omega) ?_
       refine ⟨.inl (by simp), ?_⟩
       refine anyS_done (by kernel_rfl) ?_
       refine blockS_n ?_
       refine thenS_n ?_
       refine wpS_region ?_
       refine s_y (v := .int .i64 (((i : Nat) : Int))) (y_move h9_6) rfl ?_
       refine s_y (v := .int .i64 ((((i + 1) : Nat) : Int))) (y_add (a := ((i : Nat) : Int)) (b := 1) (c := (((i + 1) : Nat) : Int)) rfl rfl (wI (by omega) (by omega) (by omega))) rfl ?_
       refine s_y (v := .int .i64 ((((i + 1) : Nat) : Int))) (y_assign rfl) rfl ?_
       refine wpL_nil ?_
       refine thenS_n ?_
       exact ⟨_, by omega, ⟨(i + 1), ((ys.set (i % li.length) (ys.getD ((u64of (tu.getD i default)) % li.length) default)).set ((u64of (tu.getD i default)) % li.length) (ys.getD (i % li.length) default)), rfl, by omega, (by rw [List.length_set, List.length_set]; assumption), ((swap_perm (by omega) (by omega)).trans (by assumption)), rfl, h0_6, h1_6, h7_6, h8_6, rfl, .p .h (.p .h .nil)⟩⟩
      ·
       refine opS_0 rfl rfl ?_
       refine OpE.y (v := .int .i64 (((li.length : Nat) : Int))) (y_len (ty' := 0) (at_ := #[]) rfl Try.underlying153) ?_
       refine ⟨.inr (.p .h .nil), ?_⟩
       refine anyS_all (rs := [12]) (by kernel_rfl) (by simp) ?_
       intro i hi; obtain rfl := List.mem_singleton.1 hi; clear hi
       refine opS_0 rfl rfl ?_
       refine OpE.y (v := .int .i64 (((i : Nat) : Int))) (y_move h9_6) ?_
       refine ⟨.inr (.p .h .nil), ?_⟩
       refine anyS_take (i := 15) rfl (by kernel_rfl) (by kernel_rfl) (by kernel_rfl) (by kernel_rfl) (Yq.of (v := .int .i64 ((((i % li.length) : Nat) : Int))) (y_rem (a := ((i : Nat) : Int)) (b := ((li.length : Nat) : Int)) (c := (((i % li.length) : Nat) : Int)) rfl rfl (by omega) (n_rem _ li.length (by omega))) rfl) (.p .h .nil) ?_
       refine anyS_take (i := 16) rfl (by kernel_rfl) (by kernel_rfl) (by kernel_rfl) (by kernel_rfl) (Yq.of (v := .pointer (some ⟨aB a_4, aO a_4 + (i % li.length) * 2, none⟩)) (y_idx (o := (i % li.length) * 2) rfl rfl Try.underlying153 Try.sizeOf89 (oslR .h) ((fl_len prV_len _).trans (by first | omega | (simp only [List.length_set, List.length_take, List.length_drop]; done) | (simp only [List.length_set, List.length_take, List.length_drop]; omega))) (by decide) (by omega) (by omega) (by omega)) rfl) (.p .h .nil) ?_
       refine anyS_take (i := 17) rfl (by kernel_rfl) (by kernel_rfl) (by kernel_rfl) (by kernel_rfl) (Yq.of (v := .agg #[.int .i64 (((ys.getD (i % li.length) default).1).toInt), .int .i64 (((ys.getD (i % li.length) default).2).toInt)]) (y_loadN (vs := prV (ys.getD (i % li.length) default)) rfl Try.isAgg89 Try.sizeOf89 (rdN (oslR .h) (fl_getN prV_len ys (i % li.length) (by first | omega | (simp only [List.length_set, List.length_take, List.length_drop]; done) | (simp only [List.length_set, List.length_take, List.length_drop]; omega))))) rfl) (.p .h .nil) ?_
       refine anyS_take (i := 18) rfl (by kernel_rfl) (by kernel_rfl) (by kernel_rfl) (by kernel_rfl) (Yq.of (v := .pointer (some ⟨aB a_4, aO a_4 + (i % li.length) * 2, none⟩)) (y_idx (o := (i % li.length) * 2) rfl rfl Try.underlying153 Try.sizeOf89 (oslR .h) ((fl_len prV_len _).trans (by first | omega | (simp only [List.length_set, List.length_take, List.length_drop]; done) | (simp only [List.length_set, List.length_take, List.length_drop]; omega))) (by decide) (by omega) (by omega) (by omega)) rfl) (.p .h .nil) ?_
       refine anyS_all (rs := [19]) (by kernel_rfl) (by simp) ?_
       intro i hi; obtain rfl := List.mem_singleton.1 hi; clear hi
       refine opS_0 rfl rfl ?_
       refine e_storeL (enc := prV) (xs := ys) (y := (ys.getD ((u64of (tu.getD i default)) % li.length) default)) prV_len prV_one (by decide) rfl rfl rfl Try.sizeOf89 .h (by (try simp only [List.length_set]); omega) ?_
       refine ⟨.inl (by simp), ?_⟩
       refine anyS_all (rs := [20]) (by kernel_rfl) (by simp) ?_
       intro i hi; obtain rfl := List.mem_singleton.1 hi; clear hi
       refine opS_0 rfl rfl ?_
       refine OpE.y (v := .pointer (some ⟨aB a_4, aO a_4 + ((u64of (tu.getD i default)) % li.length) * 2, none⟩)) (y_idx (o := ((u64of (tu.getD i default)) % li.length) * 2) rfl rfl Try.underlying153 Try.sizeOf89 (oslR .h) ((fl_len prV_len _).trans (by first | omega | (simp only [List.length_set, List.length_take, List.length_drop]; done) | (simp only [List.length_set, List.length_take, List.length_drop]; omega))) (by decide) (by omega) (by omega) (by omega)) ?_
       refine ⟨.inl (by simp), ?_⟩
       refine anyS_all (rs := [21]) (by kernel_rfl) (by simp) ?_
       intro i hi; obtain rfl := List.mem_singleton.1 hi; clear hi
       refine opS_0 rfl rfl ?_
       refine e_storeL (enc := prV) (xs := (ys.set (i % li.length) (ys.getD ((u64of (tu.getD i default)) % li.length) default))) (y := (ys.getD (i % li.length) default)) prV_len prV_one (by decide) rfl rfl rfl Try.sizeOf89 .h (by (try simp only [List.length_set]); omega) ?_
       refine ⟨.inl (by simp), ?_⟩
       refine anyS_done (by kernel_rfl) ?_
       refine blockS_n ?_
       refine thenS_n ?_
       refine wpS_region ?_
       refine s_y (v := .int .i64 (((i : Nat) : Int))) (y_move h9_6) rfl ?_
       refine s_y (v := .int .i64 ((((i + 1) : Nat) : Int))) (y_add (a := ((i : Nat) : Int)) (b := 1) (c := (((i + 1) : Nat) : Int)) rfl rfl (wI (by omega) (by omega) (by omega))) rfl ?_
       refine s_y (v := .int .i64 ((((i + 1) : Nat) : Int))) (y_assign rfl) rfl ?_
       refine wpL_nil ?_
       refine thenS_n ?_
       exact ⟨_, by omega, ⟨(i + 1), ((ys.set (i % li.length) (ys.getD ((u64of (tu.getD i default)) % li.length) default)).set ((u64of (tu.getD i default)) % li.length) (ys.getD (i % li.length) default)), rfl, by omega, (by rw [List.length_set, List.length_set]; assumption), ((swap_perm (by omega) (by omega)).trans (by assumption)), rfl, h0_6, h1_6, h7_6, h8_6, rfl, .p .h (.p .h .nil)⟩⟩
    ·
     have p8 := of_decide_eq_false b8
     refine wpS_exit ?_
     refine thenS_x ?_
     refine thenS_x ?_
     refine blockS_h ?_
     refine thenS_n ?_
     refine wpS_seq ?_
     refine wpS_anyL [cel b_3 53 [.int .i64 (((n0 : Nat) : Int)), .int .i64 1, .int .i64 ((((1 + ((u64of blk) % 3)) : Nat) : Int)), .int .i64 1]] [] (by kernel_rfl) ?_
     refine anyS_take (i := 1) rfl (by kernel_rfl) (by kernel_rfl) (by kernel_rfl) (by kernel_rfl) (Yq.of (v := .agg #[.int .i64 (((n0 : Nat) : Int)), .int .i64 1, .int .i64 ((((1 + ((u64of blk) % 3)) : Nat) : Int)), .int .i64 1]) (y_loadN (vs := [.int .i64 (((n0 : Nat) : Int)), .int .i64 1, .int .i64 ((((1 + ((u64of blk) % 3)) : Nat) : Int)), .int .i64 1]) h7_6 Try.isAgg53 Try.sizeOf53 (ownN .h rfl)) rfl) (.p (.t .h) .nil) ?_
     refine anyS_take (i := 2) rfl (by kernel_rfl) (by kernel_rfl) (by kernel_rfl) (by kernel_rfl) (Yq.of (v := .slice a0 n0 c0) (y_move h0_6) rfl) (.p (.t .h) .nil) ?_
     refine anyS_all (rs := [0]) (by kernel_rfl) (by simp) ?_
     intro i hi; obtain rfl := List.mem_singleton.1 hi; clear hi
     refine opS_0 rfl rfl ?_
     refine e_call (f := 141) (args := #[.int .i64 1]) (X := (Option Addr × Nat) × Nat) (A := []) (M := [osl a_4 c_5 li.length 2 89 (ys.flatMap prV), cel b_3 53 [.int .i64 (((n0 : Nat) : Int)), .int .i64 1, .int .i64 ((((1 + ((u64of blk) % 3)) : Nat) : Int)), .int .i64 1]]) (V := fun x => .agg #[.int .i64 ((1 : Nat) : Int), .slice x.1.1 (1 + 1) x.1.2, .slice (some ⟨x.2, 0, none⟩) 1 1, .slice none 0 0]) (A' := fun x => [osl x.1.1 x.1.2 (1 + 1) 6 86 ((smapL 1).flatMap opcV), cel x.2 86 (sfoldL.flatMap opcV)]) (C := fun _ => True) Try.call141 (ev1 rfl) (.p .h (.p .h .nil)) (fun w hs => sums_c 1 w (by omega) (by omega)) ?_
     rintro ⟨⟨a_11, c_12⟩, b_13⟩ -
     have hsm15 := smap_len 1
     refine ⟨.inr (.p (.t (.t (.t .h))) .nil), ?_⟩
     refine anyS_all (rs := [3]) (by kernel_rfl) (by simp) ?_
     intro i hi; obtain rfl := List.mem_singleton.1 hi; clear hi
     refine opS_0 rfl rfl ?_
     refine e_call (f := 138) (args := #[.agg #[.int .i64 (((1 : Nat) : Int)), .slice a_11 (1 + 1) c_12, .slice (some ⟨b_13, 0, none⟩) 1 1, .slice none 0 0], .agg #[.int .i64 (((n0 : Nat) : Int)), .int .i64 1, .int .i64 ((((1 + ((u64of blk) % 3)) : Nat) : Int)), .int .i64 1], .slice a0 n0 c0]) (X := Option Addr × Nat) (A := []) (M := [osl a_11 c_12 (1 + 1) 6 86 ((smapL 1).flatMap opcV), cel b_13 86 [.int .i64 2, .int .i64 0, .int .i64 0, .int .i64 1, .int .i64 0, .int .i64 0], osl a_4 c_5 li.length 2 89 (ys.flatMap prV), cel b_3 53 [.int .i64 (((n0 : Nat) : Int)), .int .i64 1, .int .i64 ((((1 + ((u64of blk) % 3)) : Nat) : Int)), .int .i64 1]]) (V := fun x => .tuple #[slV (runD (chkB ((1 : Nat) : Int) (smapL 1) ([(Opc.mk 2 0 0 1 0 0)]) ([])) ([(Opc.mk 2 0 0 1 0 0)]) ([]) K (mpD (chkB ((1 : Nat) : Int) (smapL 1) ([(Opc.mk 2 0 0 1 0 0)]) ([])) ((1 : Nat) : Int) (smapL 1) (1 + ((u64of blk) % 3)) 1 li nb (2 ^ K))) x, .int .i64 0]) (A' := fun x => [slR prV 2 89 (runD (chkB ((1 : Nat) : Int) (smapL 1) ([(Opc.mk 2 0 0 1 0 0)]) ([])) ([(Opc.mk 2 0 0 1 0 0)]) ([]) K (mpD (chkB ((1 : Nat) : Int) (smapL 1) ([(Opc.mk 2 0 0 1 0 0)]) ([])) ((1 : Nat) : Int) (smapL 1) (1 + ((u64of blk) % 3)) 1 li nb (2 ^ K))) x]) (C := fun _ => True) Try.call138 (ev3 rfl rfl rfl) (.p .h (.p .h (.p .h (.p .h .nil)))) (fun w hs => runP_c a_11 (some ⟨b_13, 0, none⟩) none (1 + 1) c_12 1 1 0 0 (smapL 1) ([(Opc.mk 2 0 0 1 0 0)]) ([]) n0 1 (1 + ((u64of blk) % 3)) 1 nb K a0 c0 li w hj (by first | rfl | (simp only [List.length_set]; done) | omega) (oslR .h w hs) (by omega) (by first | rfl | (simp only [List.length_set]; done) | omega) (celR (.t .h) w hs) (by omega) (by first | rfl | (simp only [List.length_set]; done) | omega) (Rds.nil _ _) (by omega) hck1 hn0 ((oldR hr0) w hs)) ?_
     rintro ⟨a_17, c_18⟩ -
     generalize hdR19 : (runD (chkB ((1 : Nat) : Int) (smapL 1) ([(Opc.mk 2 0 0 1 0 0)]) ([])) ([(Opc.mk 2 0 0 1 0 0)]) ([]) K (mpD (chkB ((1 : Nat) : Int) (smapL 1) ([(Opc.mk 2 0 0 1 0 0)]) ([])) ((1 : Nat) : Int) (smapL 1) (1 + ((u64of blk) % 3)) 1 li nb (2 ^ K))) = dR19
     have odR19 := jp_out hj hck1 hn0
     have ldR19 := jp_len (li := li) hj hck1
     rw [hdR19] at odR19 ldR19
     refine ⟨.inr (.p (.t (.t (.t (.t .h)))) .nil), ?_⟩
     refine anyS_take (i := 4) rfl (by kernel_rfl) (by kernel_rfl) (by kernel_rfl) (by kernel_rfl) (Yq.of (v := .tuple #[.slice a_17 dR19.length c_18, .int .i64 0]) (y_move rfl) rfl) (.p (.t (.t (.t (.t .h)))) .nil) ?_
     refine anyS_take (i := 5) rfl (by kernel_rfl) (by kernel_rfl) (by kernel_rfl) (by kernel_rfl) (Yq.of (v := .slice a_17 dR19.length c_18) (y_extract (v := .slice a_17 dR19.length c_18) rfl rfl) rfl) (.p (.t (.t (.t (.t .h)))) .nil) ?_
     refine anyS_take (i := 6) rfl (by kernel_rfl) (by kernel_rfl) (by kernel_rfl) (by kernel_rfl) (Yq.of (v := .int .i64 0) (y_extract (v := .int .i64 0) rfl rfl) rfl) (.p (.t (.t (.t (.t .h)))) .nil) ?_
     refine anyS_take (i := 7) rfl (by kernel_rfl) (by kernel_rfl) (by kernel_rfl) (by kernel_rfl) (Yq.of (v := .slice a_17 dR19.length c_18) (y_assign rfl) rfl) (.p (.t (.t (.t (.t .h)))) .nil) ?_
     refine anyS_take (i := 8) rfl (by kernel_rfl) (by kernel_rfl) (by kernel_rfl) (by kernel_rfl) (Yq.of (v := .int .i64 0) (y_assign rfl) rfl) (.p (.t (.t (.t (.t .h)))) .nil) ?_
     refine anyS_done (by kernel_rfl) ?_
     refine thenS_n ?_
     refine wpS_seq ?_
     refine wpS_anyL [osl a_4 c_5 li.length 2 89 (ys.flatMap prV), cel b_3 53 [.int .i64 (((n0 : Nat) : Int)), .int .i64 1, .int .i64 ((((1 + ((u64of blk) % 3)) : Nat) : Int)), .int .i64 1]] [] (by kernel_rfl) ?_
     refine anyS_take (i := 1) rfl (by kernel_rfl) (by kernel_rfl) (by kernel_rfl) (by kernel_rfl) (Yq.of (v := .agg #[.int .i64 (((n0 : Nat) : Int)), .int .i64 1, .int .i64 ((((1 + ((u64of blk) % 3)) : Nat) : Int)), .int .i64 1]) (y_loadN (vs := [.int .i64 (((n0 : Nat) : Int)), .int .i64 1, .int .i64 ((((1 + ((u64of blk) % 3)) : Nat) : Int)), .int .i64 1]) h7_6 Try.isAgg53 Try.sizeOf53 (ownN (.t .h) rfl)) rfl) (.p (.t (.t (.t .h))) (.p (.t (.t (.t .h))) .nil)) ?_
     refine anyS_take (i := 2) rfl (by kernel_rfl) (by kernel_rfl) (by kernel_rfl) (by kernel_rfl) (Yq.of (v := .slice a_4 li.length c_5) (y_move h8_6) rfl) (.p (.t (.t (.t .h))) (.p (.t (.t (.t .h))) .nil)) ?_
     refine anyS_all (rs := [0]) (by kernel_rfl) (by simp) ?_
     intro i hi; obtain rfl := List.mem_singleton.1 hi; clear hi
     refine opS_0 rfl rfl ?_
     refine e_call (f := 141) (args := #[.int .i64 1]) (X := (Option Addr × Nat) × Nat) (A := []) (M := [osl a_17 c_18 dR19.length 2 89 (dR19.flatMap prV), osl a_11 c_12 (1 + 1) 6 86 ((smapL 1).flatMap opcV), cel b_13 86 [.int .i64 2, .int .i64 0, .int .i64 0, .int .i64 1, .int .i64 0, .int .i64 0], osl a_4 c_5 li.length 2 89 (ys.flatMap prV), cel b_3 53 [.int .i64 (((n0 : Nat) : Int)), .int .i64 1, .int .i64 ((((1 + ((u64of blk) % 3)) : Nat) : Int)), .int .i64 1]]) (V := fun x => .agg #[.int .i64 ((1 : Nat) : Int), .slice x.1.1 (1 + 1) x.1.2, .slice (some ⟨x.2, 0, none⟩) 1 1, .slice none 0 0]) (A' := fun x => [osl x.1.1 x.1.2 (1 + 1) 6 86 ((smapL 1).flatMap opcV), cel x.2 86 (sfoldL.flatMap opcV)]) (C := fun _ => True) Try.call141 (ev1 rfl) (.p .h (.p .h (.p .h (.p .h (.p .h .nil))))) (fun w hs => sums_c 1 w (by omega) (by omega)) ?_
     rintro ⟨⟨a_20, c_21⟩, b_22⟩ -
     have hsm24 := smap_len 1
     refine ⟨.inr (.p (.t (.t (.t (.t (.t .h))))) (.p (.t (.t (.t (.t (.t .h))))) .nil)), ?_⟩
     refine anyS_all (rs := [3]) (by kernel_rfl) (by simp) ?_
     intro i hi; obtain rfl := List.mem_singleton.1 hi; clear hi
     refine opS_0 rfl rfl ?_
     refine e_call (f := 138) (args := #[.agg #[.int .i64 (((1 : Nat) : Int)), .slice a_20 (1 + 1) c_21, .slice (some ⟨b_22, 0, none⟩) 1 1, .slice none 0 0], .agg #[.int .i64 (((n0 : Nat) : Int)), .int .i64 1, .int .i64 ((((1 + ((u64of blk) % 3)) : Nat) : Int)), .int .i64 1], .slice a_4 li.length c_5]) (X := Option Addr × Nat) (A := []) (M := [osl a_20 c_21 (1 + 1) 6 86 ((smapL 1).flatMap opcV), cel b_22 86 [.int .i64 2, .int .i64 0, .int .i64 0, .int .i64 1, .int .i64 0, .int .i64 0], osl a_17 c_18 dR19.length 2 89 (dR19.flatMap prV), osl a_11 c_12 (1 + 1) 6 86 ((smapL 1).flatMap opcV), cel b_13 86 [.int .i64 2, .int .i64 0, .int .i64 0, .int .i64 1, .int .i64 0, .int .i64 0], osl a_4 c_5 li.length 2 89 (ys.flatMap prV), cel b_3 53 [.int .i64 (((n0 : Nat) : Int)), .int .i64 1, .int .i64 ((((1 + ((u64of blk) % 3)) : Nat) : Int)), .int .i64 1]]) (V := fun x => .tuple #[slV (runD (chkB ((1 : Nat) : Int) (smapL 1) ([(Opc.mk 2 0 0 1 0 0)]) ([])) ([(Opc.mk 2 0 0 1 0 0)]) ([]) K (mpD (chkB ((1 : Nat) : Int) (smapL 1) ([(Opc.mk 2 0 0 1 0 0)]) ([])) ((1 : Nat) : Int) (smapL 1) (1 + ((u64of blk) % 3)) 1 ys nb (2 ^ K))) x, .int .i64 0]) (A' := fun x => [slR prV 2 89 (runD (chkB ((1 : Nat) : Int) (smapL 1) ([(Opc.mk 2 0 0 1 0 0)]) ([])) ([(Opc.mk 2 0 0 1 0 0)]) ([]) K (mpD (chkB ((1 : Nat) : Int) (smapL 1) ([(Opc.mk 2 0 0 1 0 0)]) ([])) ((1 : Nat) : Int) (smapL 1) (1 + ((u64of blk) % 3)) 1 ys nb (2 ^ K))) x]) (C := fun _ => True) Try.call138 (ev3 rfl rfl rfl) (.p .h (.p .h (.p .h (.p .h (.p .h (.p .h (.p .h .nil))))))) (fun w hs => by rw [hn0]; exact runP_c a_20 (some ⟨b_22, 0, none⟩) none (1 + 1) c_21 1 1 0 0 (smapL 1) ([(Opc.mk 2 0 0 1 0 0)]) ([]) n0 1 (1 + ((u64of blk) % 3)) 1 nb K a_4 c_5 ys w hj (by first | rfl | (simp only [List.length_set]; done) | omega) (oslR .h w hs) (by omega) (by first | rfl | (simp only [List.length_set]; done) | omega) (celR (.t .h) w hs) (by omega) (by first | rfl | (simp only [List.length_set]; done) | omega) (Rds.nil _ _) (by omega) hck1 (by first | rfl | (simp only [List.length_set]; done) | omega) (oslR (.t (.t (.t (.t (.t .h))))) w hs)) ?_
     rintro ⟨a_26, c_27⟩ -
     generalize hdR28 : (runD (chkB ((1 : Nat) : Int) (smapL 1) ([(Opc.mk 2 0 0 1 0 0)]) ([])) ([(Opc.mk 2 0 0 1 0 0)]) ([]) K (mpD (chkB ((1 : Nat) : Int) (smapL 1) ([(Opc.mk 2 0 0 1 0 0)]) ([])) ((1 : Nat) : Int) (smapL 1) (1 + ((u64of blk) % 3)) 1 ys nb (2 ^ K))) = dR28
     have odR28 := jp_out hj hck1 (by first | rfl | (simp only [List.length_set]; done) | omega)
     have ldR28 := jp_len (li := ys) hj hck1
     rw [hdR28] at odR28 ldR28
     refine ⟨.inr (.p (.t (.t (.t (.t (.t (.t .h)))))) (.p (.t (.t (.t (.t (.t (.t .h)))))) .nil)), ?_⟩
     refine anyS_take (i := 4) rfl (by kernel_rfl) (by kernel_rfl) (by kernel_rfl) (by kernel_rfl) (Yq.of (v := .tuple #[.slice a_26 dR28.length c_27, .int .i64 0]) (y_move rfl) rfl) (.p (.t (.t (.t (.t (.t (.t .h)))))) (.p (.t (.t (.t (.t (.t (.t .h)))))) .nil)) ?_
     refine anyS_take (i := 5) rfl (by kernel_rfl) (by kernel_rfl) (by kernel_rfl) (by kernel_rfl) (Yq.of (v := .slice a_26 dR28.length c_27) (y_extract (v := .slice a_26 dR28.length c_27) rfl rfl) rfl) (.p (.t (.t (.t (.t (.t (.t .h)))))) (.p (.t (.t (.t (.t (.t (.t .h)))))) .nil)) ?_
     refine anyS_take (i := 6) rfl (by kernel_rfl) (by kernel_rfl) (by kernel_rfl) (by kernel_rfl) (Yq.of (v := .int .i64 0) (y_extract (v := .int .i64 0) rfl rfl) rfl) (.p (.t (.t (.t (.t (.t (.t .h)))))) (.p (.t (.t (.t (.t (.t (.t .h)))))) .nil)) ?_
     refine anyS_take (i := 7) rfl (by kernel_rfl) (by kernel_rfl) (by kernel_rfl) (by kernel_rfl) (Yq.of (v := .slice a_26 dR28.length c_27) (y_assign rfl) rfl) (.p (.t (.t (.t (.t (.t (.t .h)))))) (.p (.t (.t (.t (.t (.t (.t .h)))))) .nil)) ?_
     refine anyS_take (i := 8) rfl (by kernel_rfl) (by kernel_rfl) (by kernel_rfl) (by kernel_rfl) (Yq.of (v := .int .i64 0) (y_assign rfl) rfl) (.p (.t (.t (.t (.t (.t (.t .h)))))) (.p (.t (.t (.t (.t (.t (.t .h)))))) .nil)) ?_
     refine anyS_done (by kernel_rfl) ?_
     refine thenS_n ?_
     refine wpS_seq ?_
     refine wpS_region ?_
     refine s_y (v := .bool true) (y_call (args := #[]) (v := .bool true) Try.call137 ev0 (fun w hs => awake16_c w)) rfl ?_
     refine s_y (v := .bool true) (y_move rfl) rfl ?_
     refine s_gy (y_move rfl) rfl rfl rfl rfl rfl rfl ?_
     refine s_gy (y_eql (a := 0) (b := 0) (c := true) rfl rfl (by decide)) rfl rfl rfl rfl rfl rfl ?_
     refine s_y (v := .bool true) (y_pickT (v := .bool true) rfl rfl rfl) rfl ?_
     refine s_y (v := .bool true) (y_move rfl) rfl ?_
     refine s_gy (y_move rfl) rfl rfl rfl rfl rfl rfl ?_
     refine s_gy (y_eql (a := 0) (b := 0) (c := true) rfl rfl (by decide)) rfl rfl rfl rfl rfl rfl ?_
     refine s_y (v := .bool true) (y_pickT (v := .bool true) rfl rfl rfl) rfl ?_
     refine s_y (v := .bool true) (y_move rfl) rfl ?_
     refine s_gy (y_move rfl) rfl rfl rfl rfl rfl rfl ?_
     refine s_gy (y_move rfl) rfl rfl rfl rfl rfl rfl ?_
     refine s_gy (y_call (args := #[.slice a_17 dR19.length c_18, .slice a_26 dR28.length c_27]) (v := .bool (decide (dR19 = dR28))) Try.call140 (ev2 rfl rfl) (fun w hs => plainP_c a_17 a_26 dR19.length dR28.length c_18 c_27 dR19 dR28 w rfl (oslR (.t (.t (.t .h))) w hs) (by omega) rfl (oslR .h w hs) (by omega))) rfl rfl rfl rfl rfl rfl ?_
     refine s_y (v := .bool (decide (dR19 = dR28))) (y_pickT (v := .bool (decide (dR19 = dR28))) rfl rfl rfl) rfl ?_
     refine s_y (v := .bool (decide (dR19 = dR28))) (y_assign rfl) rfl ?_
     refine wpL_nil ?_
     refine thenS_n ?_
     refine wpS_ret ?_
     refine fin1 (v := .bool (decide (dR19 = dR28))) (.inr rfl) (.nil) Try.results39 rfl ?_
     exact fun w' hs => ⟨congrArg (fun b => Ending.returned (Value.bool b)) (show (decide (dR19 = dR28)) = true from (decide_eq_true (outI_unique odR19 odR28 (fun k => sums_fld hck1 (show ys.Perm li by assumption) k)))), hs⟩
   ·
    have p7 := of_decide_eq_false b7
    refine s_no rfl rfl rfl rfl (b' := decide (i < n1)) rfl b7 ?_
    refine s_no rfl rfl rfl rfl (b' := decide (i < n1)) rfl b7 ?_
    refine s_y (v := .bool false) (y_pickF (b := decide (i < n1)) (v := .bool false) rfl b7 rfl) rfl ?_
    refine wpL_nil ?_
    refine thenS_n ?_
    refine wpS_cond_f rfl ?_
    refine wpS_exit ?_
    refine thenS_x ?_
    refine thenS_x ?_
    refine blockS_h ?_
    refine thenS_n ?_
    refine wpS_seq ?_
    refine wpS_anyL [cel b_3 53 [.int .i64 (((n0 : Nat) : Int)), .int .i64 1, .int .i64 ((((1 + ((u64of blk) % 3)) : Nat) : Int)), .int .i64 1]] [] (by kernel_rfl) ?_
    refine anyS_take (i := 1) rfl (by kernel_rfl) (by kernel_rfl) (by kernel_rfl) (by kernel_rfl) (Yq.of (v := .agg #[.int .i64 (((n0 : Nat) : Int)), .int .i64 1, .int .i64 ((((1 + ((u64of blk) % 3)) : Nat) : Int)), .int .i64 1]) (y_loadN (vs := [.int .i64 (((n0 : Nat) : Int)), .int .i64 1, .int .i64 ((((1 + ((u64of blk) % 3)) : Nat) : Int)), .int .i64 1]) h7_6 Try.isAgg53 Try.sizeOf53 (ownN .h rfl)) rfl) (.p (.t .h) .nil) ?_
    refine anyS_take (i := 2) rfl (by kernel_rfl) (by kernel_rfl) (by kernel_rfl) (by kernel_rfl) (Yq.of (v := .slice a0 n0 c0) (y_move h0_6) rfl) (.p (.t .h) .nil) ?_
    refine anyS_all (rs := [0]) (by kernel_rfl) (by simp) ?_
    intro i hi; obtain rfl := List.mem_singleton.1 hi; clear hi
    refine opS_0 rfl rfl ?_
    refine e_call (f := 141) (args := #[.int .i64 1]) (X := (Option Addr × Nat) × Nat) (A := []) (M := [osl a_4 c_5 li.length 2 89 (ys.flatMap prV), cel b_3 53 [.int .i64 (((n0 : Nat) : Int)), .int .i64 1, .int .i64 ((((1 + ((u64of blk) % 3)) : Nat) : Int)), .int .i64 1]]) (V := fun x => .agg #[.int .i64 ((1 : Nat) : Int), .slice x.1.1 (1 + 1) x.1.2, .slice (some ⟨x.2, 0, none⟩) 1 1, .slice none 0 0]) (A' := fun x => [osl x.1.1 x.1.2 (1 + 1) 6 86 ((smapL 1).flatMap opcV), cel x.2 86 (sfoldL.flatMap opcV)]) (C := fun _ => True) Try.call141 (ev1 rfl) (.p .h (.p .h .nil)) (fun w hs => sums_c 1 w (by omega) (by omega)) ?_
    rintro ⟨⟨a_29, c_30⟩, b_31⟩ -
    have hsm33 := smap_len 1
    refine ⟨.inr (.p (.t (.t (.t .h))) .nil), ?_⟩
    refine anyS_all (rs := [3]) (by kernel_rfl) (by simp) ?_
    intro i hi; obtain rfl := List.mem_singleton.1 hi; clear hi
    refine opS_0 rfl rfl ?_
    refine e_call (f := 138) (args := #[.agg #[.int .i64 (((1 : Nat) : Int)), .slice a_29 (1 + 1) c_30, .slice (some ⟨b_31, 0, none⟩) 1 1, .slice none 0 0], .agg #[.int .i64 (((n0 : Nat) : Int)), .int .i64 1, .int .i64 ((((1 + ((u64of blk) % 3)) : Nat) : Int)), .int .i64 1], .slice a0 n0 c0]) (X := Option Addr × Nat) (A := []) (M := [osl a_29 c_30 (1 + 1) 6 86 ((smapL 1).flatMap opcV), cel b_31 86 [.int .i64 2, .int .i64 0, .int .i64 0, .int .i64 1, .int .i64 0, .int .i64 0], osl a_4 c_5 li.length 2 89 (ys.flatMap prV), cel b_3 53 [.int .i64 (((n0 : Nat) : Int)), .int .i64 1, .int .i64 ((((1 + ((u64of blk) % 3)) : Nat) : Int)), .int .i64 1]]) (V := fun x => .tuple #[slV (runD (chkB ((1 : Nat) : Int) (smapL 1) ([(Opc.mk 2 0 0 1 0 0)]) ([])) ([(Opc.mk 2 0 0 1 0 0)]) ([]) K (mpD (chkB ((1 : Nat) : Int) (smapL 1) ([(Opc.mk 2 0 0 1 0 0)]) ([])) ((1 : Nat) : Int) (smapL 1) (1 + ((u64of blk) % 3)) 1 li nb (2 ^ K))) x, .int .i64 0]) (A' := fun x => [slR prV 2 89 (runD (chkB ((1 : Nat) : Int) (smapL 1) ([(Opc.mk 2 0 0 1 0 0)]) ([])) ([(Opc.mk 2 0 0 1 0 0)]) ([]) K (mpD (chkB ((1 : Nat) : Int) (smapL 1) ([(Opc.mk 2 0 0 1 0 0)]) ([])) ((1 : Nat) : Int) (smapL 1) (1 + ((u64of blk) % 3)) 1 li nb (2 ^ K))) x]) (C := fun _ => True) Try.call138 (ev3 rfl rfl rfl) (.p .h (.p .h (.p .h (.p .h .nil)))) (fun w hs => runP_c a_29 (some ⟨b_31, 0, none⟩) none (1 + 1) c_30 1 1 0 0 (smapL 1) ([(Opc.mk 2 0 0 1 0 0)]) ([]) n0 1 (1 + ((u64of blk) % 3)) 1 nb K a0 c0 li w hj (by first | rfl | (simp only [List.length_set]; done) | omega) (oslR .h w hs) (by omega) (by first | rfl | (simp only [List.length_set]; done) | omega) (celR (.t .h) w hs) (by omega) (by first | rfl | (simp only [List.length_set]; done) | omega) (Rds.nil _ _) (by omega) hck1 hn0 ((oldR hr0) w hs)) ?_
    rintro ⟨a_35, c_36⟩ -
    generalize hdR37 : (runD (chkB ((1 : Nat) : Int) (smapL 1) ([(Opc.mk 2 0 0 1 0 0)]) ([])) ([(Opc.mk 2 0 0 1 0 0)]) ([]) K (mpD (chkB ((1 : Nat) : Int) (smapL 1) ([(Opc.mk 2 0 0 1 0 0)]) ([])) ((1 : Nat) : Int) (smapL 1) (1 + ((u64of blk) % 3)) 1 li nb (2 ^ K))) = dR37
    have odR37 := jp_out hj hck1 hn0
    have ldR37 := jp_len (li := li) hj hck1
    rw [hdR37] at odR37 ldR37
    refine ⟨.inr (.p (.t (.t (.t (.t .h)))) .nil), ?_⟩
    refine anyS_take (i := 4) rfl (by kernel_rfl) (by kernel_rfl) (by kernel_rfl) (by kernel_rfl) (Yq.of (v := .tuple #[.slice a_35 dR37.length c_36, .int .i64 0]) (y_move rfl) rfl) (.p (.t (.t (.t (.t .h)))) .nil) ?_
    refine anyS_take (i := 5) rfl (by kernel_rfl) (by kernel_rfl) (by kernel_rfl) (by kernel_rfl) (Yq.of (v := .slice a_35 dR37.length c_36) (y_extract (v := .slice a_35 dR37.length c_36) rfl rfl) rfl) (.p (.t (.t (.t (.t .h)))) .nil) ?_
    refine anyS_take (i := 6) rfl (by kernel_rfl) (by kernel_rfl) (by kernel_rfl) (by kernel_rfl) (Yq.of (v := .int .i64 0) (y_extract (v := .int .i64 0) rfl rfl) rfl) (.p (.t (.t (.t (.t .h)))) .nil) ?_
    refine anyS_take (i := 7) rfl (by kernel_rfl) (by kernel_rfl) (by kernel_rfl) (by kernel_rfl) (Yq.of (v := .slice a_35 dR37.length c_36) (y_assign rfl) rfl) (.p (.t (.t (.t (.t .h)))) .nil) ?_
    refine anyS_take (i := 8) rfl (by kernel_rfl) (by kernel_rfl) (by kernel_rfl) (by kernel_rfl) (Yq.of (v := .int .i64 0) (y_assign rfl) rfl) (.p (.t (.t (.t (.t .h)))) .nil) ?_
    refine anyS_done (by kernel_rfl) ?_
    refine thenS_n ?_
    refine wpS_seq ?_
    refine wpS_anyL [osl a_4 c_5 li.length 2 89 (ys.flatMap prV), cel b_3 53 [.int .i64 (((n0 : Nat) : Int)), .int .i64 1, .int .i64 ((((1 + ((u64of blk) % 3)) : Nat) : Int)), .int .i64 1]] [] (by kernel_rfl) ?_
    refine anyS_take (i := 1) rfl (by kernel_rfl) (by kernel_rfl) (by kernel_rfl) (by kernel_rfl) (Yq.of (v := .agg #[.int .i64 (((n0 : Nat) : Int)), .int .i64 1, .int .i64 ((((1 + ((u64of blk) % 3)) : Nat) : Int)), .int .i64 1]) (y_loadN (vs := [.int .i64 (((n0 : Nat) : Int)), .int .i64 1, .int .i64 ((((1 + ((u64of blk) % 3)) : Nat) : Int)), .int .i64 1]) h7_6 Try.isAgg53 Try.sizeOf53 (ownN (.t .h) rfl)) rfl) (.p (.t (.t (.t .h))) (.p (.t (.t (.t .h))) .nil)) ?_
    refine anyS_take (i := 2) rfl (by kernel_rfl) (by kernel_rfl) (by kernel_rfl) (by kernel_rfl) (Yq.of (v := .slice a_4 li.length c_5) (y_move h8_6) rfl) (.p (.t (.t (.t .h))) (.p (.t (.t (.t .h))) .nil)) ?_
    refine anyS_all (rs := [0]) (by kernel_rfl) (by simp) ?_
    intro i hi; obtain rfl := List.mem_singleton.1 hi; clear hi
    refine opS_0 rfl rfl ?_
    refine e_call (f := 141) (args := #[.int .i64 1]) (X := (Option Addr × Nat) × Nat) (A := []) (M := [osl a_35 c_36 dR37.length 2 89 (dR37.flatMap prV), osl a_29 c_30 (1 + 1) 6 86 ((smapL 1).flatMap opcV), cel b_31 86 [.int .i64 2, .int .i64 0, .int .i64 0, .int .i64 1, .int .i64 0, .int .i64 0], osl a_4 c_5 li.length 2 89 (ys.flatMap prV), cel b_3 53 [.int .i64 (((n0 : Nat) : Int)), .int .i64 1, .int .i64 ((((1 + ((u64of blk) % 3)) : Nat) : Int)), .int .i64 1]]) (V := fun x => .agg #[.int .i64 ((1 : Nat) : Int), .slice x.1.1 (1 + 1) x.1.2, .slice (some ⟨x.2, 0, none⟩) 1 1, .slice none 0 0]) (A' := fun x => [osl x.1.1 x.1.2 (1 + 1) 6 86 ((smapL 1).flatMap opcV), cel x.2 86 (sfoldL.flatMap opcV)]) (C := fun _ => True) Try.call141 (ev1 rfl) (.p .h (.p .h (.p .h (.p .h (.p .h .nil))))) (fun w hs => sums_c 1 w (by omega) (by omega)) ?_
    rintro ⟨⟨a_38, c_39⟩, b_40⟩ -
    have hsm42 := smap_len 1
    refine ⟨.inr (.p (.t (.t (.t (.t (.t .h))))) (.p (.t (.t (.t (.t (.t .h))))) .nil)), ?_⟩
    refine anyS_all (rs := [3]) (by kernel_rfl) (by simp) ?_
    intro i hi; obtain rfl := List.mem_singleton.1 hi; clear hi
    refine opS_0 rfl rfl ?_
    refine e_call (f := 138) (args := #[.agg #[.int .i64 (((1 : Nat) : Int)), .slice a_38 (1 + 1) c_39, .slice (some ⟨b_40, 0, none⟩) 1 1, .slice none 0 0], .agg #[.int .i64 (((n0 : Nat) : Int)), .int .i64 1, .int .i64 ((((1 + ((u64of blk) % 3)) : Nat) : Int)), .int .i64 1], .slice a_4 li.length c_5]) (X := Option Addr × Nat) (A := []) (M := [osl a_38 c_39 (1 + 1) 6 86 ((smapL 1).flatMap opcV), cel b_40 86 [.int .i64 2, .int .i64 0, .int .i64 0, .int .i64 1, .int .i64 0, .int .i64 0], osl a_35 c_36 dR37.length 2 89 (dR37.flatMap prV), osl a_29 c_30 (1 + 1) 6 86 ((smapL 1).flatMap opcV), cel b_31 86 [.int .i64 2, .int .i64 0, .int .i64 0, .int .i64 1, .int .i64 0, .int .i64 0], osl a_4 c_5 li.length 2 89 (ys.flatMap prV), cel b_3 53 [.int .i64 (((n0 : Nat) : Int)), .int .i64 1, .int .i64 ((((1 + ((u64of blk) % 3)) : Nat) : Int)), .int .i64 1]]) (V := fun x => .tuple #[slV (runD (chkB ((1 : Nat) : Int) (smapL 1) ([(Opc.mk 2 0 0 1 0 0)]) ([])) ([(Opc.mk 2 0 0 1 0 0)]) ([]) K (mpD (chkB ((1 : Nat) : Int) (smapL 1) ([(Opc.mk 2 0 0 1 0 0)]) ([])) ((1 : Nat) : Int) (smapL 1) (1 + ((u64of blk) % 3)) 1 ys nb (2 ^ K))) x, .int .i64 0]) (A' := fun x => [slR prV 2 89 (runD (chkB ((1 : Nat) : Int) (smapL 1) ([(Opc.mk 2 0 0 1 0 0)]) ([])) ([(Opc.mk 2 0 0 1 0 0)]) ([]) K (mpD (chkB ((1 : Nat) : Int) (smapL 1) ([(Opc.mk 2 0 0 1 0 0)]) ([])) ((1 : Nat) : Int) (smapL 1) (1 + ((u64of blk) % 3)) 1 ys nb (2 ^ K))) x]) (C := fun _ => True) Try.call138 (ev3 rfl rfl rfl) (.p .h (.p .h (.p .h (.p .h (.p .h (.p .h (.p .h .nil))))))) (fun w hs => by rw [hn0]; exact runP_c a_38 (some ⟨b_40, 0, none⟩) none (1 + 1) c_39 1 1 0 0 (smapL 1) ([(Opc.mk 2 0 0 1 0 0)]) ([]) n0 1 (1 + ((u64of blk) % 3)) 1 nb K a_4 c_5 ys w hj (by first | rfl | (simp only [List.length_set]; done) | omega) (oslR .h w hs) (by omega) (by first | rfl | (simp only [List.length_set]; done) | omega) (celR (.t .h) w hs) (by omega) (by first | rfl | (simp only [List.length_set]; done) | omega) (Rds.nil _ _) (by omega) hck1 (by first | rfl | (simp only [List.length_set]; done) | omega) (oslR (.t (.t (.t (.t (.t .h))))) w hs)) ?_
    rintro ⟨a_44, c_45⟩ -
    generalize hdR46 : (runD (chkB ((1 : Nat) : Int) (smapL 1) ([(Opc.mk 2 0 0 1 0 0)]) ([])) ([(Opc.mk 2 0 0 1 0 0)]) ([]) K (mpD (chkB ((1 : Nat) : Int) (smapL 1) ([(Opc.mk 2 0 0 1 0 0)]) ([])) ((1 : Nat) : Int) (smapL 1) (1 + ((u64of blk) % 3)) 1 ys nb (2 ^ K))) = dR46
    have odR46 := jp_out hj hck1 (by first | rfl | (simp only [List.length_set]; done) | omega)
    have ldR46 := jp_len (li := ys) hj hck1
    rw [hdR46] at odR46 ldR46
    refine ⟨.inr (.p (.t (.t (.t (.t (.t (.t .h)))))) (.p (.t (.t (.t (.t (.t (.t .h)))))) .nil)), ?_⟩
    refine anyS_take (i := 4) rfl (by kernel_rfl) (by kernel_rfl) (by kernel_rfl) (by kernel_rfl) (Yq.of (v := .tuple #[.slice a_44 dR46.length c_45, .int .i64 0]) (y_move rfl) rfl) (.p (.t (.t (.t (.t (.t (.t .h)))))) (.p (.t (.t (.t (.t (.t (.t .h)))))) .nil)) ?_
    refine anyS_take (i := 5) rfl (by kernel_rfl) (by kernel_rfl) (by kernel_rfl) (by kernel_rfl) (Yq.of (v := .slice a_44 dR46.length c_45) (y_extract (v := .slice a_44 dR46.length c_45) rfl rfl) rfl) (.p (.t (.t (.t (.t (.t (.t .h)))))) (.p (.t (.t (.t (.t (.t (.t .h)))))) .nil)) ?_
    refine anyS_take (i := 6) rfl (by kernel_rfl) (by kernel_rfl) (by kernel_rfl) (by kernel_rfl) (Yq.of (v := .int .i64 0) (y_extract (v := .int .i64 0) rfl rfl) rfl) (.p (.t (.t (.t (.t (.t (.t .h)))))) (.p (.t (.t (.t (.t (.t (.t .h)))))) .nil)) ?_
    refine anyS_take (i := 7) rfl (by kernel_rfl) (by kernel_rfl) (by kernel_rfl) (by kernel_rfl) (Yq.of (v := .slice a_44 dR46.length c_45) (y_assign rfl) rfl) (.p (.t (.t (.t (.t (.t (.t .h)))))) (.p (.t (.t (.t (.t (.t (.t .h)))))) .nil)) ?_
    refine anyS_take (i := 8) rfl (by kernel_rfl) (by kernel_rfl) (by kernel_rfl) (by kernel_rfl) (Yq.of (v := .int .i64 0) (y_assign rfl) rfl) (.p (.t (.t (.t (.t (.t (.t .h)))))) (.p (.t (.t (.t (.t (.t (.t .h)))))) .nil)) ?_
    refine anyS_done (by kernel_rfl) ?_
    refine thenS_n ?_
    refine wpS_seq ?_
    refine wpS_region ?_
    refine s_y (v := .bool true) (y_call (args := #[]) (v := .bool true) Try.call137 ev0 (fun w hs => awake16_c w)) rfl ?_
    refine s_y (v := .bool true) (y_move rfl) rfl ?_
    refine s_gy (y_move rfl) rfl rfl rfl rfl rfl rfl ?_
    refine s_gy (y_eql (a := 0) (b := 0) (c := true) rfl rfl (by decide)) rfl rfl rfl rfl rfl rfl ?_
    refine s_y (v := .bool true) (y_pickT (v := .bool true) rfl rfl rfl) rfl ?_
    refine s_y (v := .bool true) (y_move rfl) rfl ?_
    refine s_gy (y_move rfl) rfl rfl rfl rfl rfl rfl ?_
    refine s_gy (y_eql (a := 0) (b := 0) (c := true) rfl rfl (by decide)) rfl rfl rfl rfl rfl rfl ?_
    refine s_y (v := .bool true) (y_pickT (v := .bool true) rfl rfl rfl) rfl ?_
    refine s_y (v := .bool true) (y_move rfl) rfl ?_
    refine s_gy (y_move rfl) rfl rfl rfl rfl rfl rfl ?_
    refine s_gy (y_move rfl) rfl rfl rfl rfl rfl rfl ?_
    refine s_gy (y_call (args := #[.slice a_35 dR37.length c_36, .slice a_44 dR46.length c_45]) (v := .bool (decide (dR37 = dR46))) Try.call140 (ev2 rfl rfl) (fun w hs => plainP_c a_35 a_44 dR37.length dR46.length c_36 c_45 dR37 dR46 w rfl (oslR (.t (.t (.t .h))) w hs) (by omega) rfl (oslR .h w hs) (by omega))) rfl rfl rfl rfl rfl rfl ?_
    refine s_y (v := .bool (decide (dR37 = dR46))) (y_pickT (v := .bool (decide (dR37 = dR46))) rfl rfl rfl) rfl ?_
    refine s_y (v := .bool (decide (dR37 = dR46))) (y_assign rfl) rfl ?_
    refine wpL_nil ?_
    refine thenS_n ?_
    refine wpS_ret ?_
    refine fin1 (v := .bool (decide (dR37 = dR46))) (.inr rfl) (.nil) Try.results39 rfl ?_
    exact fun w' hs => ⟨congrArg (fun b => Ending.returned (Value.bool b)) (show (decide (dR37 = dR46)) = true from (decide_eq_true (outI_unique odR37 odR46 (fun k => sums_fld hck1 (show ys.Perm li by assumption) k)))), hs⟩
end Go.Proofs.Ytldkjjnjdjfipaa
