/- MergeSorts, walked. -/
import Derived.Test.YtldkjjnjdjfipaaWMrg8
import Derived.Test.YtldkjjnjdjfipaaWHlpR
import Derived.Test.YtldkjjnjdjfipaaWMrg6
import Derived.Test.YtldkjjnjdjfipaaP14d
namespace Go.Proofs.Ytldkjjnjdjfipaa
open Go Go.RowKit
set_option linter.unusedVariables false
set_option linter.unusedSimpArgs false
set_option maxRecDepth 10000
set_option maxHeartbeats 1000000

theorem mgd_eq (sq : Bool) (la lb : List Rec) : mgd sq la lb = msort sq (la ++ lb) := by unfold mgd; simp

theorem sorts_law (a b : Option Addr) (na ca nb cb : Nat) (la lb : List Rec) (sq : Bool) (w : World) (hna : la.length = na) (hnb : lb.length = nb) (hca : na ≤ ca) (hcb : nb ≤ cb) (hra : Rds w a (la.flatMap recV)) (hrb : Rds w b (lb.flatMap recV)) : Pure Try.prog 16 #[.slice a na ca, .slice b nb cb, .bool sq] w (.bool true) := by
  refine calls_S (n := 83) (σ0 := (upd (upd (upd fr0 0 (.slice a na ca)) 1 (.slice b nb cb)) 2 (.bool sq))) (D := []) (A := []) Try.func16 rfl Try.ntmps16 rfl (a3_fr _ _ _) (SH.start w) ?_
  have hm1 := msort_len sq la
  have hm2 : (isort sq la).length = la.length := by rw [isort_eq, msort_len]
  have hm3 : (isort sq (la ++ lb)).length = la.length + lb.length := by rw [isort_eq, msort_len, List.length_append]
  have hm4 := msort_len sq lb
  have hm9 : ((isort sq (la ++ lb)).take na).length = min na (isort sq (la ++ lb)).length := List.length_take
  have hm10 : ((mgd sq la lb).take na).length = min na (mgd sq la lb).length := List.length_take
  have hm6 : ((isort sq (la ++ lb)).drop na).length = (isort sq (la ++ lb)).length - na := List.length_drop
  have hm7 : ((mgd sq la lb).drop na).length = (mgd sq la lb).length - na := List.length_drop
  have hm8 := mgd_len sq la lb
  have hm5 : (isort sq lb).length = lb.length := by rw [isort_eq, msort_len]
  refine wpS_seq ?_
  refine wpS_region ?_
  refine s_y (v := .bool false) (y_assign rfl) rfl ?_
  refine wpL_nil ?_
  refine thenS_n ?_
  refine wpS_seq ?_
  refine wpS_seq ?_
  refine wpS_region ?_
  refine s_y (v := .slice a na ca) (y_move rfl) rfl ?_
  refine s_y (v := .int .i64 (((na : Nat) : Int))) (y_len (ty' := 0) (at_ := #[]) rfl Try.underlying69) rfl ?_
  refine s_y (v := .bool (decide ((60 : Nat) < na))) (y_gtr (a := ((na : Nat) : Int)) (b := 60) (c := decide ((60 : Nat) < na)) rfl rfl (decide_eq_decide.2 (by omega))) rfl ?_
  refine s_y (v := .bool (decide ((60 : Nat) < na))) (y_move rfl) rfl ?_
  rcases Bool.eq_false_or_eq_true (decide ((60 : Nat) < na)) with b1 | b1
  · -- decide ((60 : Nat) < na) True
    have p1 := of_decide_eq_true b1
    refine s_no rfl rfl rfl rfl (b' := decide ((60 : Nat) < na)) rfl b1 ?_
    refine s_no rfl rfl rfl rfl (b' := decide ((60 : Nat) < na)) rfl b1 ?_
    refine s_no rfl rfl rfl rfl (b' := decide ((60 : Nat) < na)) rfl b1 ?_
    refine s_y (v := .bool true) (y_pickT (b := decide ((60 : Nat) < na)) (v := .bool true) rfl b1 rfl) rfl ?_
    refine wpL_nil ?_
    refine thenS_n ?_
    refine wpS_cond_t rfl ?_
    refine wpS_seq ?_
    refine wpS_region ?_
    refine s_y (v := .bool true) (y_call (args := #[]) (v := .bool true) Try.call72 ev0 (fun w hs => awake14_c w)) rfl ?_
    refine s_y (v := .bool true) (y_assign rfl) rfl ?_
    refine wpL_nil ?_
    refine thenS_n ?_
    refine wpS_ret ?_
    refine thenS_r ?_
    refine fin1 (v := .bool true) (.inr rfl) (.nil) Try.results16 rfl ?_
    exact fun w' hs => ⟨rfl, hs⟩
  · -- decide ((60 : Nat) < na) False
    have p1 := of_decide_eq_false b1
    refine s_gy (y_move rfl) rfl rfl rfl rfl (b' := decide ((60 : Nat) < na)) rfl b1 ?_
    refine s_gy (y_len (ty' := 0) (at_ := #[]) rfl Try.underlying69) rfl rfl rfl rfl (b' := decide ((60 : Nat) < na)) rfl b1 ?_
    refine s_gy (y_gtr (a := ((nb : Nat) : Int)) (b := 60) (c := decide ((60 : Nat) < nb)) rfl rfl (decide_eq_decide.2 (by omega))) rfl rfl rfl rfl (b' := decide ((60 : Nat) < na)) rfl b1 ?_
    refine s_y (v := .bool (decide ((60 : Nat) < nb))) (y_pickF (b := decide ((60 : Nat) < na)) (v := .bool (decide ((60 : Nat) < nb))) rfl b1 rfl) rfl ?_
    refine wpL_nil ?_
    refine thenS_n ?_
    refine wpS_cond (t := decide ((60 : Nat) < nb)) rfl (fun b2 => ?_) (fun b2 => ?_)
    · -- decide ((60 : Nat) < nb) true
      have p2 := of_decide_eq_true b2
      refine wpS_seq ?_
      refine wpS_region ?_
      refine s_y (v := .bool true) (y_call (args := #[]) (v := .bool true) Try.call72 ev0 (fun w hs => awake14_c w)) rfl ?_
      refine s_y (v := .bool true) (y_assign rfl) rfl ?_
      refine wpL_nil ?_
      refine thenS_n ?_
      refine wpS_ret ?_
      refine thenS_r ?_
      refine fin1 (v := .bool true) (.inr rfl) (.nil) Try.results16 rfl ?_
      exact fun w' hs => ⟨rfl, hs⟩
    · -- decide ((60 : Nat) < nb) false
      have p2 := of_decide_eq_false b2
      refine wpS_skip ?_
      refine thenS_n ?_
      refine wpS_seq ?_
      refine wpS_region ?_
      refine s_y (v := .slice a na ca) (y_move rfl) rfl ?_
      refine s_y (v := .agg #[.bool false, .int .i64 71, .int .i64 0, .int .i64 0]) (y_buildL (m := [(1, .int .i64 71)]) (vs := #[.bool false, .int .i64 71, .int .i64 0, .int .i64 0]) (evc rfl evn) (fun w => by kernel_rfl)) rfl ?_
      refine s_e rfl ?_
      refine e_call (f := 75) (args := #[.slice a na ca, .agg #[.bool false, .int .i64 71, .int .i64 0, .int .i64 0]]) (X := Nat) (A := []) (M := []) (V := fun b => .slice (some ⟨b, 0, none⟩) na (na + 3)) (A' := fun b => [osl (some ⟨b, 0, none⟩) (na + 3) (na + 3) 4 23 ((ownL la (Rec.mk false 71 0 0)).flatMap recV)]) (C := fun _ => True) Try.call75 (ev2 rfl rfl) (.nil) (fun w hs => ownR_c a na ca la (Rec.mk false 71 0 0) w hna ((oldR hra) w hs) (by omega)) ?_
      rintro b_3 -
      refine s_y (v := .slice b nb cb) (y_move rfl) rfl ?_
      refine s_y (v := .agg #[.bool false, .int .i64 71, .int .i64 0, .int .i64 0]) (y_buildL (m := [(1, .int .i64 71)]) (vs := #[.bool false, .int .i64 71, .int .i64 0, .int .i64 0]) (evc rfl evn) (fun w => by kernel_rfl)) rfl ?_
      refine s_e rfl ?_
      refine e_call (f := 75) (args := #[.slice b nb cb, .agg #[.bool false, .int .i64 71, .int .i64 0, .int .i64 0]]) (X := Nat) (A := []) (M := [osl (some ⟨b_3, 0, none⟩) (na + 3) (na + 3) 4 23 ((ownL la (Rec.mk false 71 0 0)).flatMap recV)]) (V := fun b => .slice (some ⟨b, 0, none⟩) nb (nb + 3)) (A' := fun b => [osl (some ⟨b, 0, none⟩) (nb + 3) (nb + 3) 4 23 ((ownL lb (Rec.mk false 71 0 0)).flatMap recV)]) (C := fun _ => True) Try.call75 (ev2 rfl rfl) (.p .h .nil) (fun w hs => ownR_c b nb cb lb (Rec.mk false 71 0 0) w hnb ((oldR hrb) w hs) (by omega)) ?_
      rintro b_5 -
      refine s_y (v := .slice (some ⟨b_3, 0, none⟩) na (na + 3)) (y_assign rfl) rfl ?_
      refine s_y (v := .slice (some ⟨b_5, 0, none⟩) nb (nb + 3)) (y_assign rfl) rfl ?_
      refine wpL_nil ?_
      refine thenS_n ?_
      refine wpS_seq ?_
      refine wpS_region ?_
      refine s_y (v := .slice (some ⟨b_3, 0, none⟩) na (na + 3)) (y_move rfl) rfl ?_
      refine s_y (v := .slice (some ⟨b_5, 0, none⟩) nb (nb + 3)) (y_move rfl) rfl ?_
      refine s_y (v := .bool sq) (y_move rfl) rfl ?_
      refine s_e rfl ?_
      refine e_call (f := 73) (args := #[.slice (some ⟨b_3, 0, none⟩) na (na + 3), .slice (some ⟨b_5, 0, none⟩) nb (nb + 3), .bool sq]) (X := Option Addr × Nat) (A := []) (M := [osl (some ⟨b_5, 0, none⟩) (nb + 3) (nb + 3) 4 23 ((ownL lb (Rec.mk false 71 0 0)).flatMap recV), osl (some ⟨b_3, 0, none⟩) (na + 3) (na + 3) 4 23 ((ownL la (Rec.mk false 71 0 0)).flatMap recV)]) (V := fun x : Option Addr × Nat => .tuple #[.slice x.1 na na, .slice (subA x.1 x.2 na 4) ((mgd sq la lb).length - na) (x.2 - na)]) (A' := fun x => [slR recV 4 23 (mgd sq la lb) x]) (C := fun x => (mgd sq la lb).length ≤ x.2) Try.call73 (ev3 rfl rfl rfl) (.p .h (.p .h .nil)) (fun w hs => split_c (some ⟨b_3, 0, none⟩) (some ⟨b_5, 0, none⟩) na (na + 3) nb (nb + 3) la lb sq w (by omega) (by omega) ((rdsT' recV_len (ownL_take' (by omega)) (oslR (.t .h))) w hs) ((rdsT' recV_len (ownL_take' (by omega)) (oslR .h)) w hs) (by omega) (by omega)) ?_
      rintro ⟨a_7, c_8⟩ hc9; replace hc9 : (mgd sq la lb).length ≤ c_8 := hc9
      have hlhc9 : (mgd sq la lb).length = la.length + lb.length := mgd_len _ _ _
      try simp only [List.length_cons, List.length_nil] at hlhc9
      refine s_y (v := .tuple #[.slice a_7 na na, .slice (subA a_7 c_8 na 4) ((mgd sq la lb).length - na) (c_8 - na)]) (y_move rfl) rfl ?_
      refine s_y (v := .slice a_7 na na) (y_extract (v := .slice a_7 na na) rfl rfl) rfl ?_
      refine s_y (v := .slice (subA a_7 c_8 na 4) ((mgd sq la lb).length - na) (c_8 - na)) (y_extract (v := .slice (subA a_7 c_8 na 4) ((mgd sq la lb).length - na) (c_8 - na)) rfl rfl) rfl ?_
      refine s_y (v := .slice a_7 na na) (y_assign rfl) rfl ?_
      refine s_y (v := .slice (subA a_7 c_8 na 4) ((mgd sq la lb).length - na) (c_8 - na)) (y_assign rfl) rfl ?_
      refine wpL_nil ?_
      refine thenS_n ?_
      refine wpS_seq ?_
      refine wpS_region ?_
      refine s_y (v := .slice a na ca) (y_move rfl) rfl ?_
      refine s_y (v := .slice b nb cb) (y_move rfl) rfl ?_
      refine s_y (v := .bool sq) (y_move rfl) rfl ?_
      refine s_e rfl ?_
      refine e_call (f := 76) (args := #[.slice a na ca, .slice b nb cb, .bool sq]) (X := Option Addr × Nat) (A := []) (M := [osl a_7 c_8 ((mgd sq la lb).length) 4 23 ((mgd sq la lb).flatMap recV), osl (some ⟨b_5, 0, none⟩) (nb + 3) (nb + 3) 4 23 ((ownL lb (Rec.mk false 71 0 0)).flatMap recV), osl (some ⟨b_3, 0, none⟩) (na + 3) (na + 3) 4 23 ((ownL la (Rec.mk false 71 0 0)).flatMap recV)]) (V := fun x : Option Addr × Nat => .tuple #[.slice x.1 na x.2, .slice (subA x.1 x.2 na 4) ((isort sq (la ++ lb)).length - na) (x.2 - na)]) (A' := fun x => [slR recV 4 23 (isort sq (la ++ lb)) x]) (C := fun x => (isort sq (la ++ lb)).length ≤ x.2) Try.call76 (ev3 rfl rfl rfl) (.p .h (.p .h (.p .h .nil))) (fun w hs => refsplit_c a b na ca nb cb la lb sq w hna hnb ((oldR hra) w hs) ((oldR hrb) w hs) (by omega) (by omega)) ?_
      rintro ⟨a_11, c_12⟩ hc13; replace hc13 : (isort sq (la ++ lb)).length ≤ c_12 := hc13
      have hlhc13 : (isort sq (la ++ lb)).length = la.length + lb.length := by rw [isort_eq, msort_len, List.length_append]
      refine s_y (v := .tuple #[.slice a_11 na c_12, .slice (subA a_11 c_12 na 4) ((isort sq (la ++ lb)).length - na) (c_12 - na)]) (y_move rfl) rfl ?_
      refine s_y (v := .slice a_11 na c_12) (y_extract (v := .slice a_11 na c_12) rfl rfl) rfl ?_
      refine s_y (v := .slice (subA a_11 c_12 na 4) ((isort sq (la ++ lb)).length - na) (c_12 - na)) (y_extract (v := .slice (subA a_11 c_12 na 4) ((isort sq (la ++ lb)).length - na) (c_12 - na)) rfl rfl) rfl ?_
      refine s_y (v := .slice a_11 na c_12) (y_assign rfl) rfl ?_
      refine s_y (v := .slice (subA a_11 c_12 na 4) ((isort sq (la ++ lb)).length - na) (c_12 - na)) (y_assign rfl) rfl ?_
      refine wpL_nil ?_
      refine thenS_n ?_
      refine wpS_seq ?_
      refine wpS_region ?_
      refine s_y (v := .bool true) (y_call (args := #[]) (v := .bool true) Try.call72 ev0 (fun w hs => awake14_c w)) rfl ?_
      refine s_y (v := .bool true) (y_move rfl) rfl ?_
      refine s_gy (y_move rfl) rfl rfl rfl rfl rfl rfl ?_
      refine s_gy (y_move rfl) rfl rfl rfl rfl rfl rfl ?_
      refine s_ge rfl rfl rfl rfl rfl rfl ?_
      refine e_call (f := 74) (args := #[.slice (some ⟨b_3, 0, none⟩) na (na + 3), .bool sq]) (X := Option Addr × Nat) (A := []) (M := [osl a_11 c_12 ((isort sq (la ++ lb)).length) 4 23 ((isort sq (la ++ lb)).flatMap recV), osl a_7 c_8 ((mgd sq la lb).length) 4 23 ((mgd sq la lb).flatMap recV), osl (some ⟨b_5, 0, none⟩) (nb + 3) (nb + 3) 4 23 ((ownL lb (Rec.mk false 71 0 0)).flatMap recV), osl (some ⟨b_3, 0, none⟩) (na + 3) (na + 3) 4 23 ((ownL la (Rec.mk false 71 0 0)).flatMap recV)]) (V := slV (msort sq la)) (A' := fun x => [slR recV 4 23 (msort sq la) x]) (C := fun x => (msort sq la).length ≤ x.2) Try.call74 (ev2 rfl rfl) (.p .h (.p .h (.p .h (.p .h .nil)))) (fun w hs => (sort_c (some ⟨b_3, 0, none⟩) na (na + 3) la sq w (by omega) ((rdsT' recV_len (ownL_take' (by omega)) (oslR (.t (.t (.t .h))))) w hs) (by omega)).cap) ?_
      rintro ⟨a_15, c_16⟩ hc17; replace hc17 : (msort sq la).length ≤ c_16 := hc17
      refine s_gy (y_move rfl) rfl rfl rfl rfl rfl rfl ?_
      refine s_gy (y_move rfl) rfl rfl rfl rfl rfl rfl ?_
      refine s_ge rfl rfl rfl rfl rfl rfl ?_
      refine e_call (f := 78) (args := #[.slice a na ca, .bool sq]) (X := Option Addr × Nat) (A := []) (M := [osl a_15 c_16 ((msort sq la).length) 4 23 ((msort sq la).flatMap recV), osl a_11 c_12 ((isort sq (la ++ lb)).length) 4 23 ((isort sq (la ++ lb)).flatMap recV), osl a_7 c_8 ((mgd sq la lb).length) 4 23 ((mgd sq la lb).flatMap recV), osl (some ⟨b_5, 0, none⟩) (nb + 3) (nb + 3) 4 23 ((ownL lb (Rec.mk false 71 0 0)).flatMap recV), osl (some ⟨b_3, 0, none⟩) (na + 3) (na + 3) 4 23 ((ownL la (Rec.mk false 71 0 0)).flatMap recV)]) (V := slV (isort sq la)) (A' := fun x => [slR recV 4 23 (isort sq la) x]) (C := fun x => (isort sq la).length ≤ x.2) Try.call78 (ev2 rfl rfl) (.p .h (.p .h (.p .h (.p .h (.p .h .nil))))) (fun w hs => (refsort_c a na ca la sq w hna ((oldR hra) w hs) (by omega)).cap) ?_
      rintro ⟨a_19, c_20⟩ hc21; replace hc21 : (isort sq la).length ≤ c_20 := hc21
      refine s_gy (y_call (args := #[.slice a_15 ((msort sq la).length) c_16, .slice a_19 ((isort sq la).length) c_20]) (v := .bool (decide ((msort sq la) = (isort sq la)))) Try.call77 (ev2 rfl rfl) (fun w hs => plain_c a_15 a_19 ((msort sq la).length) c_16 ((isort sq la).length) c_20 (msort sq la) (isort sq la) w rfl rfl (oslR (.t .h) w hs) (oslR .h w hs) (by omega) (by omega))) rfl rfl rfl rfl rfl rfl ?_
      refine s_y (v := .bool (decide ((msort sq la) = (isort sq la)))) (y_pickT (v := .bool (decide ((msort sq la) = (isort sq la)))) rfl rfl rfl) rfl ?_
      refine s_y (v := .bool (decide ((msort sq la) = (isort sq la)))) (y_move rfl) rfl ?_
      refine s_gy (y_move rfl) rfl rfl rfl rfl (b' := decide ((msort sq la) = (isort sq la))) rfl (decide_eq_true (isort_eq _ _).symm) ?_
      refine s_gy (y_move rfl) rfl rfl rfl rfl (b' := decide ((msort sq la) = (isort sq la))) rfl (decide_eq_true (isort_eq _ _).symm) ?_
      refine s_gy (y_call (args := #[.slice (some ⟨b_3, 0, none⟩) na (na + 3), .bool sq]) (v := .bool ((srtd sq la))) Try.call79 (ev2 rfl rfl) (fun w hs => sorted_c (some ⟨b_3, 0, none⟩) na (na + 3) la sq w (by omega) ((rdsT' recV_len (ownL_take' (by omega)) (oslR (.t (.t (.t (.t (.t .h))))))) w hs) (by omega))) rfl rfl rfl rfl (b' := decide ((msort sq la) = (isort sq la))) rfl (decide_eq_true (isort_eq _ _).symm) ?_
      refine s_gy (y_move rfl) rfl rfl rfl rfl (b' := decide ((msort sq la) = (isort sq la))) rfl (decide_eq_true (isort_eq _ _).symm) ?_
      refine s_gy (y_move rfl) rfl rfl rfl rfl (b' := decide ((msort sq la) = (isort sq la))) rfl (decide_eq_true (isort_eq _ _).symm) ?_
      refine s_gy (y_call (args := #[.slice a na ca, .bool sq]) (v := .bool ((srtd sq la))) Try.call80 (ev2 rfl rfl) (fun w hs => refsorted_c a na ca la sq w hna ((oldR hra) w hs) (by omega))) rfl rfl rfl rfl (b' := decide ((msort sq la) = (isort sq la))) rfl (decide_eq_true (isort_eq _ _).symm) ?_
      refine s_gy (y_eqlB (a := (srtd sq la)) (b := (srtd sq la)) Try.underlying4 rfl rfl rfl) rfl rfl rfl rfl (b' := decide ((msort sq la) = (isort sq la))) rfl (decide_eq_true (isort_eq _ _).symm) ?_
      refine s_y (v := .bool ((srtd sq la) == (srtd sq la))) (y_pickT (b := decide ((msort sq la) = (isort sq la))) (v := .bool ((srtd sq la) == (srtd sq la))) rfl (decide_eq_true (isort_eq _ _).symm) rfl) rfl ?_
      refine s_y (v := .bool ((srtd sq la) == (srtd sq la))) (y_move rfl) rfl ?_
      refine s_gy (y_move rfl) rfl rfl rfl rfl (b' := (srtd sq la) == (srtd sq la)) rfl (by simp) ?_
      refine s_gy (y_move rfl) rfl rfl rfl rfl (b' := (srtd sq la) == (srtd sq la)) rfl (by simp) ?_
      refine s_gy (y_call (args := #[.slice a_7 na na, .slice a_11 na c_12]) (v := .bool (decide (((mgd sq la lb).take na) = ((isort sq (la ++ lb)).take na)))) Try.call77 (ev2 rfl rfl) (fun w hs => plain_c a_7 a_11 na na na c_12 ((mgd sq la lb).take na) ((isort sq (la ++ lb)).take na) w (by omega) (by omega) ((rdsT recV_len na (oslR (.t (.t (.t .h))))) w hs) ((rdsT recV_len na (oslR (.t (.t .h)))) w hs) (by omega) (by omega))) rfl rfl rfl rfl (b' := (srtd sq la) == (srtd sq la)) rfl (by simp) ?_
      refine s_y (v := .bool (decide (((mgd sq la lb).take na) = ((isort sq (la ++ lb)).take na)))) (y_pickT (b := (srtd sq la) == (srtd sq la)) (v := .bool (decide (((mgd sq la lb).take na) = ((isort sq (la ++ lb)).take na)))) rfl (by simp) rfl) rfl ?_
      refine s_y (v := .bool (decide (((mgd sq la lb).take na) = ((isort sq (la ++ lb)).take na)))) (y_move rfl) rfl ?_
      refine s_gy (y_move rfl) rfl rfl rfl rfl (b' := decide (((mgd sq la lb).take na) = ((isort sq (la ++ lb)).take na))) rfl (decide_eq_true (by rw [isort_eq, mgd_eq])) ?_
      refine s_gy (y_move rfl) rfl rfl rfl rfl (b' := decide (((mgd sq la lb).take na) = ((isort sq (la ++ lb)).take na))) rfl (decide_eq_true (by rw [isort_eq, mgd_eq])) ?_
      refine s_gy (y_call (args := #[.slice (subA a_7 c_8 na 4) ((mgd sq la lb).length - na) (c_8 - na), .slice (subA a_11 c_12 na 4) ((isort sq (la ++ lb)).length - na) (c_12 - na)]) (v := .bool (decide (((mgd sq la lb).drop na) = ((isort sq (la ++ lb)).drop na)))) Try.call77 (ev2 rfl rfl) (fun w hs => plain_c (subA a_7 c_8 na 4) (subA a_11 c_12 na 4) ((mgd sq la lb).length - na) (c_8 - na) ((isort sq (la ++ lb)).length - na) (c_12 - na) ((mgd sq la lb).drop na) ((isort sq (la ++ lb)).drop na) w (by omega) (by omega) ((rdsD recV_len na hc9 (oslR (.t (.t (.t .h))))) w hs) ((rdsD recV_len na hc13 (oslR (.t (.t .h)))) w hs) (by omega) (by omega))) rfl rfl rfl rfl (b' := decide (((mgd sq la lb).take na) = ((isort sq (la ++ lb)).take na))) rfl (decide_eq_true (by rw [isort_eq, mgd_eq])) ?_
      refine s_y (v := .bool (decide (((mgd sq la lb).drop na) = ((isort sq (la ++ lb)).drop na)))) (y_pickT (b := decide (((mgd sq la lb).take na) = ((isort sq (la ++ lb)).take na))) (v := .bool (decide (((mgd sq la lb).drop na) = ((isort sq (la ++ lb)).drop na)))) rfl (decide_eq_true (by rw [isort_eq, mgd_eq])) rfl) rfl ?_
      refine s_y (v := .bool (decide (((mgd sq la lb).drop na) = ((isort sq (la ++ lb)).drop na)))) (y_move rfl) rfl ?_
      refine s_gy (y_move rfl) rfl rfl rfl rfl (b' := decide (((mgd sq la lb).drop na) = ((isort sq (la ++ lb)).drop na))) rfl (decide_eq_true (by rw [isort_eq, mgd_eq])) ?_
      refine s_gy (y_move rfl) rfl rfl rfl rfl (b' := decide (((mgd sq la lb).drop na) = ((isort sq (la ++ lb)).drop na))) rfl (decide_eq_true (by rw [isort_eq, mgd_eq])) ?_
      refine s_gy (y_buildL (m := [(1, .int .i64 71)]) (vs := #[.bool false, .int .i64 71, .int .i64 0, .int .i64 0]) (evc rfl evn) (fun w => by kernel_rfl)) rfl rfl rfl rfl (b' := decide (((mgd sq la lb).drop na) = ((isort sq (la ++ lb)).drop na))) rfl (decide_eq_true (by rw [isort_eq, mgd_eq])) ?_
      refine s_gy (y_call (args := #[.slice (some ⟨b_3, 0, none⟩) na (na + 3), .slice a na ca, .agg #[.bool false, .int .i64 71, .int .i64 0, .int .i64 0]]) (v := .bool true) Try.call81 (ev3 rfl rfl rfl) (fun w hs => keptR_c b_3 a na ca la (Rec.mk false 71 0 0) w hna ((oldR hra) w hs) (by omega) (oslR (.t (.t (.t (.t (.t .h))))) w hs))) rfl rfl rfl rfl (b' := decide (((mgd sq la lb).drop na) = ((isort sq (la ++ lb)).drop na))) rfl (decide_eq_true (by rw [isort_eq, mgd_eq])) ?_
      refine s_y (v := .bool true) (y_pickT (b := decide (((mgd sq la lb).drop na) = ((isort sq (la ++ lb)).drop na))) (v := .bool true) rfl (decide_eq_true (by rw [isort_eq, mgd_eq])) rfl) rfl ?_
      refine s_y (v := .bool true) (y_move rfl) rfl ?_
      refine s_gy (y_move rfl) rfl rfl rfl rfl rfl rfl ?_
      refine s_gy (y_move rfl) rfl rfl rfl rfl rfl rfl ?_
      refine s_gy (y_buildL (m := [(1, .int .i64 71)]) (vs := #[.bool false, .int .i64 71, .int .i64 0, .int .i64 0]) (evc rfl evn) (fun w => by kernel_rfl)) rfl rfl rfl rfl rfl rfl ?_
      refine s_gy (y_call (args := #[.slice (some ⟨b_5, 0, none⟩) nb (nb + 3), .slice b nb cb, .agg #[.bool false, .int .i64 71, .int .i64 0, .int .i64 0]]) (v := .bool true) Try.call81 (ev3 rfl rfl rfl) (fun w hs => keptR_c b_5 b nb cb lb (Rec.mk false 71 0 0) w hnb ((oldR hrb) w hs) (by omega) (oslR (.t (.t (.t (.t .h)))) w hs))) rfl rfl rfl rfl rfl rfl ?_
      refine s_y (v := .bool true) (y_pickT (v := .bool true) rfl rfl rfl) rfl ?_
      refine s_y (v := .bool true) (y_assign rfl) rfl ?_
      refine wpL_nil ?_
      refine thenS_n ?_
      refine wpS_ret ?_
      refine fin1 (v := .bool true) (.inr rfl) (.nil) Try.results16 rfl ?_
      exact fun w' hs => ⟨rfl, hs⟩

end Go.Proofs.Ytldkjjnjdjfipaa
