/- ChainPlaces, walked. -/
import Derived.Test.YtldkjjnjdjfipaaP15b
import Derived.Test.YtldkjjnjdjfipaaWChn1
namespace Go.Proofs.Ytldkjjnjdjfipaa
open Go Go.RowKit
set_option linter.unusedVariables false
set_option linter.unusedSimpArgs false
set_option maxRecDepth 10000
set_option maxHeartbeats 1000000

theorem at_c (a : Option Addr) (na ca : Nat) (l : List Int64) (i : Nat) (w : World) (hi : i < 1000000) (hna : l.length = na) (hra : Rds w a (l.flatMap i64V)) : Pure Try.prog 95 #[.slice a na ca, .int .i64 (((i : Nat) : Int))] w (.int .i64 ((atL l i).toInt)) := by
  refine calls_S (n := 13) (σ0 := (upd (upd fr0 0 (.slice a na ca)) 1 (.int .i64 (((i : Nat) : Int))))) (D := []) (A := []) Try.func95 rfl Try.ntmps95 rfl (a2_fr _ _) (SH.start w) ?_
  refine wpS_seq ?_
  refine wpS_region ?_
  refine s_y (v := .int .i64 0) (y_assign rfl) rfl ?_
  refine wpL_nil ?_
  refine thenS_n ?_
  refine wpS_seq ?_
  refine wpS_seq ?_
  refine wpS_region ?_
  refine s_y (v := .int .i64 (((i : Nat) : Int))) (y_move rfl) rfl ?_
  refine s_y (v := .slice a na ca) (y_move rfl) rfl ?_
  refine s_y (v := .int .i64 (((na : Nat) : Int))) (y_len (ty' := 0) (at_ := #[]) rfl Try.underlying98) rfl ?_
  refine s_y (v := .bool (decide (i < na))) (y_lss (a := ((i : Nat) : Int)) (b := ((na : Nat) : Int)) (c := decide (i < na)) rfl rfl (decide_eq_decide.2 (by omega))) rfl ?_
  refine wpL_nil ?_
  refine thenS_n ?_
  refine wpS_cond (t := decide (i < na)) rfl (fun b1 => ?_) (fun b1 => ?_)
  · -- decide (i < na) true
    have p1 := of_decide_eq_true b1
    refine wpS_seq ?_
    refine wpS_region ?_
    refine s_y (v := .slice a na ca) (y_move rfl) rfl ?_
    refine s_y (v := .int .i64 (((i : Nat) : Int))) (y_move rfl) rfl ?_
    refine s_y (v := .pointer (some ⟨aB a, aO a + i * 1, none⟩)) (y_idx (o := i * 1) rfl rfl Try.underlying98 Try.sizeOf2 (oldR hra) ((fl_len i64V_len _).trans (by first | omega | (simp only [List.length_set, List.length_take, List.length_drop]; done) | (simp only [List.length_set, List.length_take, List.length_drop]; omega))) (by decide) (by omega) (by omega) (by omega)) rfl ?_
    refine s_y (v := .int .i64 (((l.getD i default)).toInt)) (y_load1 (v := .int .i64 (((l.getD i default)).toInt)) rfl Try.isAgg2 (rd1 (k := i * 1) (oldR hra) (fl_get0 i64V_len l i (by first | omega | (simp only [List.length_set, List.length_take, List.length_drop]; done) | (simp only [List.length_set, List.length_take, List.length_drop]; omega)) rfl))) rfl ?_
    refine s_y (v := .int .i64 (((l.getD i default)).toInt)) (y_assign rfl) rfl ?_
    refine wpL_nil ?_
    refine thenS_n ?_
    refine wpS_ret ?_
    refine thenS_r ?_
    refine fin1 (v := .int .i64 (((l.getD i default)).toInt)) (.inr rfl) (.nil) Try.results95 rfl ?_
    exact fun w' hs => ⟨congrArg (fun z : Int64 => Ending.returned (.int .i64 z.toInt)) ((by unfold atL; rw [if_pos (by omega)])), hs⟩
  · -- decide (i < na) false
    have p1 := of_decide_eq_false b1
    refine wpS_skip ?_
    refine thenS_n ?_
    refine wpS_seq ?_
    refine wpS_region ?_
    refine s_y (v := .int .i64 1) (y_assign rfl) rfl ?_
    refine wpL_nil ?_
    refine thenS_n ?_
    refine wpS_ret ?_
    refine fin1 (v := .int .i64 1) (.inr rfl) (.nil) Try.results95 rfl ?_
    exact fun w' hs => ⟨congrArg (fun z : Int64 => Ending.returned (.int .i64 z.toInt)) ((by unfold atL; rw [if_neg (by omega)] : (1 : Int64) = _)), hs⟩

theorem places_law (a : Option Addr) (na ca : Nat) (ks : List Int) (b : Option Addr) (nb cb : Nat) (vs : List Int64) (e : Option Addr) (ne ce : Nat) (os : List Int64) (d : Option Addr) (nd cd : Nat) (dd : List Bool) (w : World) (hna : ks.length = na) (hra : Rds w a (ks.flatMap intV)) (hnb : vs.length = nb) (hrb : Rds w b (vs.flatMap i64V)) (hne : os.length = ne) (hre : Rds w e (os.flatMap i64V)) (hnd : dd.length = nd) (hrd : Rds w d (dd.flatMap boolV)) : Pure Try.prog 27 #[.slice a na ca, .slice b nb cb, .slice e ne ce, .slice d nd cd] w (.bool true) := by
  refine calls_S (n := 164) (σ0 := (upd (upd (upd (upd fr0 0 (.slice a na ca)) 1 (.slice b nb cb)) 2 (.slice e ne ce)) 3 (.slice d nd cd))) (D := []) (A := []) Try.func27 rfl Try.ntmps27 rfl (a4_fr _ _ _ _) (SH.start w) ?_
  refine wpS_seq ?_
  refine wpS_region ?_
  refine s_y (v := .bool false) (y_assign rfl) rfl ?_
  refine wpL_nil ?_
  refine thenS_n ?_
  refine wpS_seq ?_
  refine wpS_seq ?_
  refine wpS_region ?_
  refine s_y (v := .slice a na ca) (y_move rfl) rfl ?_
  refine s_y (v := .int .i64 (((na : Nat) : Int))) (y_len (ty' := 0) (at_ := #[]) rfl Try.underlying39) rfl ?_
  refine s_y (v := .bool (decide ((60 : Nat) < na))) (y_gtr (a := ((na : Nat) : Int)) (b := 60) (c := decide ((60 : Nat) < na)) rfl rfl (decide_eq_decide.2 (by omega))) rfl ?_
  refine wpL_nil ?_
  refine thenS_n ?_
  refine wpS_cond (t := decide ((60 : Nat) < na)) rfl (fun b1 => ?_) (fun b1 => ?_)
  · -- decide ((60 : Nat) < na) true
    have p1 := of_decide_eq_true b1
    refine wpS_seq ?_
    refine wpS_region ?_
    refine s_y (v := .bool true) (y_call (args := #[]) (v := .bool true) Try.call90 ev0 (fun w hs => awake15_c w)) rfl ?_
    refine s_y (v := .bool true) (y_assign rfl) rfl ?_
    refine wpL_nil ?_
    refine thenS_n ?_
    refine wpS_ret ?_
    refine thenS_r ?_
    refine fin1 (v := .bool true) (.inr rfl) (.nil) Try.results27 rfl ?_
    exact fun w' hs => ⟨rfl, hs⟩
  · -- decide ((60 : Nat) < na) false
    have p1 := of_decide_eq_false b1
    refine wpS_skip ?_
    refine thenS_n ?_
    refine wpS_seq ?_
    refine wpS_region ?_
    refine s_y (v := .func (.func 95) #[] #[]) (y_assign rfl) rfl ?_
    refine wpL_nil ?_
    refine thenS_n ?_
    refine wpS_seq ?_
    refine wpS_region ?_
    refine s_y (v := .slice none 0 0) (y_assign rfl) rfl ?_
    refine s_y (v := .slice none 0 0) (y_assign rfl) rfl ?_
    refine wpL_nil ?_
    refine thenS_n ?_
    refine wpS_seq ?_
    refine wpS_seq ?_
    refine wpS_region ?_
    refine s_y (v := .int .i64 0) (y_assign rfl) rfl ?_
    refine wpL_nil ?_
    refine thenS_n ?_
    refine wpS_block ?_
    refine wpS_nil0 4 23 ?_
    refine wpS_nil0 4 23 ?_
    refine wpS_loop (fun mez ds σ L => ∃ i : Nat, ∃ xs : List Rec, ∃ a1 : Option Addr, ∃ c1 : Nat, ∃ ys : List Rec, ∃ a2 : Option Addr, ∃ c2 : Nat, mez = na - i ∧ (i ≤ na) ∧ (xs.length = i) ∧ (ys.length = i) ∧ (xs = plL ks dd vs i) ∧ (ys = plL ks dd os i) ∧ ds = [] ∧ σ 0 = .slice a na ca ∧ σ 1 = .slice b nb cb ∧ σ 2 = .slice e ne ce ∧ σ 3 = .slice d nd cd ∧ σ 9 = .func (.func 95) #[] #[] ∧ σ 10 = .slice a1 xs.length c1 ∧ σ 11 = .slice a2 ys.length c2 ∧ σ 12 = .int .i64 (((i : Nat) : Int)) ∧ Ent L [osl a2 c2 ys.length 4 23 (ys.flatMap recV), osl a1 c1 xs.length 4 23 (xs.flatMap recV)]) (m0 := na - 0) ⟨0, [], none, 0, [], none, 0, rfl, by omega, rfl, rfl, rfl, rfl, rfl, rfl, rfl, rfl, rfl, rfl, rfl, rfl, rfl, .p .h (.p .h .nil)⟩ ?_
    rintro mez ds σ L ⟨i, xs, a1, c1, ys, a2, c2, hm_2, hf0_2, hf1_2, hf2_2, hf3_2, hf4_2, rfl, h0_2, h1_2, h2_2, h3_2, h9_2, h10_2, h11_2, h12_2, hE_2⟩
    refine wpS_ent hE_2 ?_; clear hE_2
    refine wpS_seq ?_
    refine wpS_seq ?_
    refine wpS_region ?_
    refine s_y (v := .int .i64 (((i : Nat) : Int))) (y_move h12_2) rfl ?_
    refine s_y (v := .slice a na ca) (y_move h0_2) rfl ?_
    refine s_y (v := .int .i64 (((na : Nat) : Int))) (y_len (ty' := 0) (at_ := #[]) rfl Try.underlying39) rfl ?_
    refine s_y (v := .bool (decide (i < na))) (y_lss (a := ((i : Nat) : Int)) (b := ((na : Nat) : Int)) (c := decide (i < na)) rfl rfl (decide_eq_decide.2 (by omega))) rfl ?_
    refine wpL_nil ?_
    refine thenS_n ?_
    refine wpS_cond (t := decide (i < na)) rfl (fun b3 => ?_) (fun b3 => ?_)
    · -- decide (i < na) true
      have p3 := of_decide_eq_true b3
      refine wpS_skip ?_
      refine thenS_n ?_
      refine wpS_seq ?_
      refine wpS_block ?_
      refine wpS_seq ?_
      refine wpS_seq ?_
      refine wpS_region ?_
      refine s_y (v := .int .i64 (((i : Nat) : Int))) (y_move h12_2) rfl ?_
      refine s_y (v := .slice d nd cd) (y_move h3_2) rfl ?_
      refine s_y (v := .int .i64 (((nd : Nat) : Int))) (y_len (ty' := 0) (at_ := #[]) rfl Try.underlying50) rfl ?_
      refine s_y (v := .bool (decide (i < nd))) (y_lss (a := ((i : Nat) : Int)) (b := ((nd : Nat) : Int)) (c := decide (i < nd)) rfl rfl (decide_eq_decide.2 (by omega))) rfl ?_
      refine s_y (v := .bool (decide (i < nd))) (y_move rfl) rfl ?_
      rcases Bool.eq_false_or_eq_true (decide (i < nd)) with b4 | b4
      · -- decide (i < nd) True
        have p4 := of_decide_eq_true b4
        refine s_gy (y_move h3_2) rfl rfl rfl rfl (b' := decide (i < nd)) rfl b4 ?_
        refine s_gy (y_move h12_2) rfl rfl rfl rfl (b' := decide (i < nd)) rfl b4 ?_
        refine s_gy (y_idx (o := i * 1) rfl rfl Try.underlying50 Try.sizeOf4 (oldR hrd) ((fl_len boolV_len _).trans (by first | omega | (simp only [List.length_set, List.length_take, List.length_drop]; done) | (simp only [List.length_set, List.length_take, List.length_drop]; omega))) (by decide) (by omega) (by omega) (by omega)) rfl rfl rfl rfl (b' := decide (i < nd)) rfl b4 ?_
        refine s_gy (y_load1 (v := .bool ((dd.getD i default))) rfl Try.isAgg4 (rd1 (k := i * 1) (oldR hrd) (fl_get0 boolV_len dd i (by first | omega | (simp only [List.length_set, List.length_take, List.length_drop]; done) | (simp only [List.length_set, List.length_take, List.length_drop]; omega)) rfl))) rfl rfl rfl rfl (b' := decide (i < nd)) rfl b4 ?_
        refine s_y (v := .bool ((dd.getD i default))) (y_pickT (b := decide (i < nd)) (v := .bool ((dd.getD i default))) rfl b4 rfl) rfl ?_
        refine wpL_nil ?_
        refine thenS_n ?_
        refine wpS_cond (t := (dd.getD i default)) rfl (fun b5 => ?_) (fun b5 => ?_)
        · -- (dd.getD i default) true
          refine wpS_seq ?_
          refine wpS_region ?_
          refine s_y (v := .slice a1 xs.length c1) (y_move h10_2) rfl ?_
          refine s_y (v := .agg #[.bool true, .int .i64 0, .int .i64 0, .int .i64 0]) (y_buildL (m := [(0, .bool true)]) (vs := #[.bool true, .int .i64 0, .int .i64 0, .int .i64 0]) (evc rfl evn) (fun w => by kernel_rfl)) rfl ?_
          refine s_e rfl ?_
          refine e_bsliceL (e := 23) (m := [(0, .agg #[.bool true, .int .i64 0, .int .i64 0, .int .i64 0])]) (l := [.bool true, .int .i64 0, .int .i64 0, .int .i64 0]) (evc rfl evn) (fun w => by kernel_rfl) ?_
          intro b_6
          refine s_e rfl ?_
          refine e_appendL (enc := recV) (xs := (xs : List Rec)) (ns := ([(Rec.mk true 0 0 0)] : List Rec)) (zs := (xs ++ [(Rec.mk true 0 0 0)])) (bytes := 32) recV_len recV_one Try.underlying69 (i := Try.t23) rfl rfl rfl rfl rfl (by decide) rfl rfl (by first | rfl | omega) (by first | rfl | omega) (.t (.t .h)) (fun w hs => celR .h w hs) (by first | rfl | simp) (by (try simp only [List.length_append, List.length_cons, List.length_nil] at *); omega) (by (try simp only [List.length_append, List.length_cons, List.length_nil] at *); omega) ?_
          intro a_7 c_8
          refine s_y (v := .slice a2 ys.length c2) (y_move h11_2) rfl ?_
          refine s_y (v := .agg #[.bool true, .int .i64 0, .int .i64 0, .int .i64 0]) (y_buildL (m := [(0, .bool true)]) (vs := #[.bool true, .int .i64 0, .int .i64 0, .int .i64 0]) (evc rfl evn) (fun w => by kernel_rfl)) rfl ?_
          refine s_e rfl ?_
          refine e_bsliceL (e := 23) (m := [(0, .agg #[.bool true, .int .i64 0, .int .i64 0, .int .i64 0])]) (l := [.bool true, .int .i64 0, .int .i64 0, .int .i64 0]) (evc rfl evn) (fun w => by kernel_rfl) ?_
          intro b_9
          refine s_e rfl ?_
          refine e_appendL (enc := recV) (xs := (ys : List Rec)) (ns := ([(Rec.mk true 0 0 0)] : List Rec)) (zs := (ys ++ [(Rec.mk true 0 0 0)])) (bytes := 32) recV_len recV_one Try.underlying69 (i := Try.t23) rfl rfl rfl rfl rfl (by decide) rfl rfl (by first | rfl | omega) (by first | rfl | omega) (.t (.t (.t .h))) (fun w hs => celR .h w hs) (by first | rfl | simp) (by (try simp only [List.length_append, List.length_cons, List.length_nil] at *); omega) (by (try simp only [List.length_append, List.length_cons, List.length_nil] at *); omega) ?_
          intro a_10 c_11
          refine s_y (v := .slice a_7 ((xs ++ [(Rec.mk true 0 0 0)]).length) c_8) (y_assign rfl) rfl ?_
          refine s_y (v := .slice a_10 ((ys ++ [(Rec.mk true 0 0 0)]).length) c_11) (y_assign rfl) rfl ?_
          refine wpL_nil ?_
          refine thenS_n ?_
          refine wpS_exit ?_
          refine thenS_x ?_
          refine blockS_h ?_
          refine thenS_n ?_
          refine wpS_region ?_
          refine s_y (v := .int .i64 (((i : Nat) : Int))) (y_move h12_2) rfl ?_
          refine s_y (v := .int .i64 ((((i + 1) : Nat) : Int))) (y_add (a := ((i : Nat) : Int)) (b := 1) (c := (((i + 1) : Nat) : Int)) rfl rfl (wI (by omega) (by omega) (by omega))) rfl ?_
          refine s_y (v := .int .i64 ((((i + 1) : Nat) : Int))) (y_assign rfl) rfl ?_
          refine wpL_nil ?_
          refine thenS_n ?_
          exact ⟨_, by omega, ⟨(i + 1), (xs ++ [(Rec.mk true 0 0 0)]), a_7, c_8, (ys ++ [(Rec.mk true 0 0 0)]), a_10, c_11, rfl, by omega, (by rw [List.length_append, List.length_singleton]; omega), (by rw [List.length_append, List.length_singleton]; omega), (by first | exact pl_t (by assumption) (by assumption) | exact pl_f (by assumption) (by first | assumption | exact getD_out (by omega))), (by first | exact pl_t (by assumption) (by assumption) | exact pl_f (by assumption) (by first | assumption | exact getD_out (by omega))), rfl, h0_2, h1_2, h2_2, h3_2, h9_2, rfl, rfl, rfl, .p .h (.p (.t .h) .nil)⟩⟩
        · -- (dd.getD i default) false
          refine wpS_skip ?_
          refine thenS_n ?_
          refine wpS_seq ?_
          refine wpS_region ?_
          refine s_y (v := .slice a na ca) (y_move h0_2) rfl ?_
          refine s_y (v := .int .i64 (((i : Nat) : Int))) (y_move h12_2) rfl ?_
          refine s_y (v := .pointer (some ⟨aB a, aO a + i * 1, none⟩)) (y_idx (o := i * 1) rfl rfl Try.underlying39 Try.sizeOf3 (oldR hra) ((fl_len intV_len _).trans (by first | omega | (simp only [List.length_set, List.length_take, List.length_drop]; done) | (simp only [List.length_set, List.length_take, List.length_drop]; omega))) (by decide) (by omega) (by omega) (by omega)) rfl ?_
          refine s_y (v := .int .i64 ((ks.getD i default))) (y_load1 (v := .int .i64 ((ks.getD i default))) rfl Try.isAgg3 (rd1 (k := i * 1) (oldR hra) (fl_get0 intV_len ks i (by first | omega | (simp only [List.length_set, List.length_take, List.length_drop]; done) | (simp only [List.length_set, List.length_take, List.length_drop]; omega)) rfl))) rfl ?_
          refine s_y (v := .int .u64 ((((u64of (ks.getD i default)) : Nat) : Int))) (y_convI (a := (ks.getD i default)) (c := (((u64of (ks.getD i default)) : Nat) : Int)) rfl Try.underlying3 Try.underlying46 (u64of_wrap _)) rfl ?_
          refine s_y (v := .int .u64 (((UInt64.ofNat (u64of (ks.getD i default) % 3))).toNat)) (y_rem (a := (((u64of (ks.getD i default)) : Nat) : Int)) (b := 3) (c := ((UInt64.ofNat (u64of (ks.getD i default) % 3))).toNat) rfl rfl (by omega) ((n_rem _ 3 (by omega)).trans (congrArg (Nat.cast : Nat → Int) (uof (by omega)).symm))) rfl ?_
          refine s_y (v := .int .i64 (((UInt64.ofNat (u64of (ks.getD i default) % 3)).toInt64).toInt)) (y_convI (a := ((UInt64.ofNat (u64of (ks.getD i default) % 3))).toNat) (c := ((UInt64.ofNat (u64of (ks.getD i default) % 3)).toInt64).toInt) rfl Try.underlying46 Try.underlying2 (ui_conv _)) rfl ?_
          refine s_y (v := .int .i64 (((UInt64.ofNat (u64of (ks.getD i default) % 3)).toInt64).toInt)) (y_assign rfl) rfl ?_
          refine wpL_nil ?_
          refine thenS_n ?_
          refine wpS_seq ?_
          refine wpS_region ?_
          refine s_y (v := .slice a1 xs.length c1) (y_move h10_2) rfl ?_
          refine s_y (v := .int .i64 (((UInt64.ofNat (u64of (ks.getD i default) % 3)).toInt64).toInt)) (y_move rfl) rfl ?_
          refine s_y (v := .func (.func 95) #[] #[]) (y_move h9_2) rfl ?_
          refine s_y (v := .slice b nb cb) (y_move h1_2) rfl ?_
          refine s_y (v := .int .i64 (((i : Nat) : Int))) (y_move h12_2) rfl ?_
          refine s_y (v := .int .i64 (((atL vs i)).toInt)) (y_callV (cap := #[]) (args := #[.slice b nb cb, .int .i64 (((i : Nat) : Int))]) (args' := #[.slice b nb cb, .int .i64 (((i : Nat) : Int))]) (v := .int .i64 (((atL vs i)).toInt)) rfl Try.call95 (ev2 rfl rfl) rfl (fun w hs => at_c b nb cb vs i w (by omega) hnb ((oldR hrb) w hs))) rfl ?_
          refine s_y (v := .int .i64 (((i : Nat) : Int))) (y_move h12_2) rfl ?_
          refine s_y (v := .agg #[.bool false, .int .i64 (((UInt64.ofNat (u64of (ks.getD i default) % 3)).toInt64).toInt), .int .i64 (((atL vs i)).toInt), .int .i64 (((Int64.ofNat i)).toInt)]) (y_buildL (m := [(1, .int .i64 (((UInt64.ofNat (u64of (ks.getD i default) % 3)).toInt64).toInt)), (2, .int .i64 (((atL vs i)).toInt)), (3, .int .i64 (((Int64.ofNat i)).toInt))]) (vs := #[.bool false, .int .i64 (((UInt64.ofNat (u64of (ks.getD i default) % 3)).toInt64).toInt), .int .i64 (((atL vs i)).toInt), .int .i64 (((Int64.ofNat i)).toInt)]) (evc rfl (evc rfl (evc (by rw [i_lit i (by omega)]; exact rfl) evn))) (fun w => by kernel_rfl)) rfl ?_
          refine s_e rfl ?_
          refine e_bsliceL (e := 23) (m := [(0, .agg #[.bool false, .int .i64 (((UInt64.ofNat (u64of (ks.getD i default) % 3)).toInt64).toInt), .int .i64 (((atL vs i)).toInt), .int .i64 (((Int64.ofNat i)).toInt)])]) (l := [.bool false, .int .i64 (((UInt64.ofNat (u64of (ks.getD i default) % 3)).toInt64).toInt), .int .i64 (((atL vs i)).toInt), .int .i64 (((Int64.ofNat i)).toInt)]) (evc rfl evn) (fun w => by kernel_rfl) ?_
          intro b_12
          refine s_e rfl ?_
          refine e_appendL (enc := recV) (xs := (xs : List Rec)) (ns := ([(Rec.mk false ((UInt64.ofNat (u64of (ks.getD i default) % 3)).toInt64) (atL vs i) (Int64.ofNat i))] : List Rec)) (zs := (xs ++ [(Rec.mk false ((UInt64.ofNat (u64of (ks.getD i default) % 3)).toInt64) (atL vs i) (Int64.ofNat i))])) (bytes := 32) recV_len recV_one Try.underlying69 (i := Try.t23) rfl rfl rfl rfl rfl (by decide) rfl rfl (by first | rfl | omega) (by first | rfl | omega) (.t (.t .h)) (fun w hs => celR .h w hs) (by first | rfl | simp) (by (try simp only [List.length_append, List.length_cons, List.length_nil] at *); omega) (by (try simp only [List.length_append, List.length_cons, List.length_nil] at *); omega) ?_
          intro a_13 c_14
          refine s_y (v := .slice a_13 ((xs ++ [(Rec.mk false ((UInt64.ofNat (u64of (ks.getD i default) % 3)).toInt64) (atL vs i) (Int64.ofNat i))]).length) c_14) (y_assign rfl) rfl ?_
          refine wpL_nil ?_
          refine thenS_n ?_
          refine wpS_region ?_
          refine s_y (v := .slice a2 ys.length c2) (y_move h11_2) rfl ?_
          refine s_y (v := .int .i64 (((UInt64.ofNat (u64of (ks.getD i default) % 3)).toInt64).toInt)) (y_move rfl) rfl ?_
          refine s_y (v := .func (.func 95) #[] #[]) (y_move h9_2) rfl ?_
          refine s_y (v := .slice e ne ce) (y_move h2_2) rfl ?_
          refine s_y (v := .int .i64 (((i : Nat) : Int))) (y_move h12_2) rfl ?_
          refine s_y (v := .int .i64 (((atL os i)).toInt)) (y_callV (cap := #[]) (args := #[.slice e ne ce, .int .i64 (((i : Nat) : Int))]) (args' := #[.slice e ne ce, .int .i64 (((i : Nat) : Int))]) (v := .int .i64 (((atL os i)).toInt)) rfl Try.call95 (ev2 rfl rfl) rfl (fun w hs => at_c e ne ce os i w (by omega) hne ((oldR hre) w hs))) rfl ?_
          refine s_y (v := .int .i64 (((i : Nat) : Int))) (y_move h12_2) rfl ?_
          refine s_y (v := .agg #[.bool false, .int .i64 (((UInt64.ofNat (u64of (ks.getD i default) % 3)).toInt64).toInt), .int .i64 (((atL os i)).toInt), .int .i64 (((Int64.ofNat i)).toInt)]) (y_buildL (m := [(1, .int .i64 (((UInt64.ofNat (u64of (ks.getD i default) % 3)).toInt64).toInt)), (2, .int .i64 (((atL os i)).toInt)), (3, .int .i64 (((Int64.ofNat i)).toInt))]) (vs := #[.bool false, .int .i64 (((UInt64.ofNat (u64of (ks.getD i default) % 3)).toInt64).toInt), .int .i64 (((atL os i)).toInt), .int .i64 (((Int64.ofNat i)).toInt)]) (evc rfl (evc rfl (evc (by rw [i_lit i (by omega)]; exact rfl) evn))) (fun w => by kernel_rfl)) rfl ?_
          refine s_e rfl ?_
          refine e_bsliceL (e := 23) (m := [(0, .agg #[.bool false, .int .i64 (((UInt64.ofNat (u64of (ks.getD i default) % 3)).toInt64).toInt), .int .i64 (((atL os i)).toInt), .int .i64 (((Int64.ofNat i)).toInt)])]) (l := [.bool false, .int .i64 (((UInt64.ofNat (u64of (ks.getD i default) % 3)).toInt64).toInt), .int .i64 (((atL os i)).toInt), .int .i64 (((Int64.ofNat i)).toInt)]) (evc rfl evn) (fun w => by kernel_rfl) ?_
          intro b_15
          refine s_e rfl ?_
          refine e_appendL (enc := recV) (xs := (ys : List Rec)) (ns := ([(Rec.mk false ((UInt64.ofNat (u64of (ks.getD i default) % 3)).toInt64) (atL os i) (Int64.ofNat i))] : List Rec)) (zs := (ys ++ [(Rec.mk false ((UInt64.ofNat (u64of (ks.getD i default) % 3)).toInt64) (atL os i) (Int64.ofNat i))])) (bytes := 32) recV_len recV_one Try.underlying69 (i := Try.t23) rfl rfl rfl rfl rfl (by decide) rfl rfl (by first | rfl | omega) (by first | rfl | omega) (.t (.t (.t .h))) (fun w hs => celR .h w hs) (by first | rfl | simp) (by (try simp only [List.length_append, List.length_cons, List.length_nil] at *); omega) (by (try simp only [List.length_append, List.length_cons, List.length_nil] at *); omega) ?_
          intro a_16 c_17
          refine s_y (v := .slice a_16 ((ys ++ [(Rec.mk false ((UInt64.ofNat (u64of (ks.getD i default) % 3)).toInt64) (atL os i) (Int64.ofNat i))]).length) c_17) (y_assign rfl) rfl ?_
          refine wpL_nil ?_
          refine blockS_n ?_
          refine thenS_n ?_
          refine wpS_region ?_
          refine s_y (v := .int .i64 (((i : Nat) : Int))) (y_move h12_2) rfl ?_
          refine s_y (v := .int .i64 ((((i + 1) : Nat) : Int))) (y_add (a := ((i : Nat) : Int)) (b := 1) (c := (((i + 1) : Nat) : Int)) rfl rfl (wI (by omega) (by omega) (by omega))) rfl ?_
          refine s_y (v := .int .i64 ((((i + 1) : Nat) : Int))) (y_assign rfl) rfl ?_
          refine wpL_nil ?_
          refine thenS_n ?_
          exact ⟨_, by omega, ⟨(i + 1), (xs ++ [(Rec.mk false ((UInt64.ofNat (u64of (ks.getD i default) % 3)).toInt64) (atL vs i) (Int64.ofNat i))]), a_13, c_14, (ys ++ [(Rec.mk false ((UInt64.ofNat (u64of (ks.getD i default) % 3)).toInt64) (atL os i) (Int64.ofNat i))]), a_16, c_17, rfl, by omega, (by rw [List.length_append, List.length_singleton]; omega), (by rw [List.length_append, List.length_singleton]; omega), (by first | exact pl_t (by assumption) (by assumption) | exact pl_f (by assumption) (by first | assumption | exact getD_out (by omega))), (by first | exact pl_t (by assumption) (by assumption) | exact pl_f (by assumption) (by first | assumption | exact getD_out (by omega))), rfl, h0_2, h1_2, h2_2, h3_2, h9_2, rfl, rfl, rfl, .p .h (.p (.t .h) .nil)⟩⟩
      · -- decide (i < nd) False
        have p4 := of_decide_eq_false b4
        refine s_no rfl rfl rfl rfl (b' := decide (i < nd)) rfl b4 ?_
        refine s_no rfl rfl rfl rfl (b' := decide (i < nd)) rfl b4 ?_
        refine s_no rfl rfl rfl rfl (b' := decide (i < nd)) rfl b4 ?_
        refine s_no rfl rfl rfl rfl (b' := decide (i < nd)) rfl b4 ?_
        refine s_y (v := .bool false) (y_pickF (b := decide (i < nd)) (v := .bool false) rfl b4 rfl) rfl ?_
        refine wpL_nil ?_
        refine thenS_n ?_
        refine wpS_cond_f rfl ?_
        refine wpS_skip ?_
        refine thenS_n ?_
        refine wpS_seq ?_
        refine wpS_region ?_
        refine s_y (v := .slice a na ca) (y_move h0_2) rfl ?_
        refine s_y (v := .int .i64 (((i : Nat) : Int))) (y_move h12_2) rfl ?_
        refine s_y (v := .pointer (some ⟨aB a, aO a + i * 1, none⟩)) (y_idx (o := i * 1) rfl rfl Try.underlying39 Try.sizeOf3 (oldR hra) ((fl_len intV_len _).trans (by first | omega | (simp only [List.length_set, List.length_take, List.length_drop]; done) | (simp only [List.length_set, List.length_take, List.length_drop]; omega))) (by decide) (by omega) (by omega) (by omega)) rfl ?_
        refine s_y (v := .int .i64 ((ks.getD i default))) (y_load1 (v := .int .i64 ((ks.getD i default))) rfl Try.isAgg3 (rd1 (k := i * 1) (oldR hra) (fl_get0 intV_len ks i (by first | omega | (simp only [List.length_set, List.length_take, List.length_drop]; done) | (simp only [List.length_set, List.length_take, List.length_drop]; omega)) rfl))) rfl ?_
        refine s_y (v := .int .u64 ((((u64of (ks.getD i default)) : Nat) : Int))) (y_convI (a := (ks.getD i default)) (c := (((u64of (ks.getD i default)) : Nat) : Int)) rfl Try.underlying3 Try.underlying46 (u64of_wrap _)) rfl ?_
        refine s_y (v := .int .u64 (((UInt64.ofNat (u64of (ks.getD i default) % 3))).toNat)) (y_rem (a := (((u64of (ks.getD i default)) : Nat) : Int)) (b := 3) (c := ((UInt64.ofNat (u64of (ks.getD i default) % 3))).toNat) rfl rfl (by omega) ((n_rem _ 3 (by omega)).trans (congrArg (Nat.cast : Nat → Int) (uof (by omega)).symm))) rfl ?_
        refine s_y (v := .int .i64 (((UInt64.ofNat (u64of (ks.getD i default) % 3)).toInt64).toInt)) (y_convI (a := ((UInt64.ofNat (u64of (ks.getD i default) % 3))).toNat) (c := ((UInt64.ofNat (u64of (ks.getD i default) % 3)).toInt64).toInt) rfl Try.underlying46 Try.underlying2 (ui_conv _)) rfl ?_
        refine s_y (v := .int .i64 (((UInt64.ofNat (u64of (ks.getD i default) % 3)).toInt64).toInt)) (y_assign rfl) rfl ?_
        refine wpL_nil ?_
        refine thenS_n ?_
        refine wpS_seq ?_
        refine wpS_region ?_
        refine s_y (v := .slice a1 xs.length c1) (y_move h10_2) rfl ?_
        refine s_y (v := .int .i64 (((UInt64.ofNat (u64of (ks.getD i default) % 3)).toInt64).toInt)) (y_move rfl) rfl ?_
        refine s_y (v := .func (.func 95) #[] #[]) (y_move h9_2) rfl ?_
        refine s_y (v := .slice b nb cb) (y_move h1_2) rfl ?_
        refine s_y (v := .int .i64 (((i : Nat) : Int))) (y_move h12_2) rfl ?_
        refine s_y (v := .int .i64 (((atL vs i)).toInt)) (y_callV (cap := #[]) (args := #[.slice b nb cb, .int .i64 (((i : Nat) : Int))]) (args' := #[.slice b nb cb, .int .i64 (((i : Nat) : Int))]) (v := .int .i64 (((atL vs i)).toInt)) rfl Try.call95 (ev2 rfl rfl) rfl (fun w hs => at_c b nb cb vs i w (by omega) hnb ((oldR hrb) w hs))) rfl ?_
        refine s_y (v := .int .i64 (((i : Nat) : Int))) (y_move h12_2) rfl ?_
        refine s_y (v := .agg #[.bool false, .int .i64 (((UInt64.ofNat (u64of (ks.getD i default) % 3)).toInt64).toInt), .int .i64 (((atL vs i)).toInt), .int .i64 (((Int64.ofNat i)).toInt)]) (y_buildL (m := [(1, .int .i64 (((UInt64.ofNat (u64of (ks.getD i default) % 3)).toInt64).toInt)), (2, .int .i64 (((atL vs i)).toInt)), (3, .int .i64 (((Int64.ofNat i)).toInt))]) (vs := #[.bool false, .int .i64 (((UInt64.ofNat (u64of (ks.getD i default) % 3)).toInt64).toInt), .int .i64 (((atL vs i)).toInt), .int .i64 (((Int64.ofNat i)).toInt)]) (evc rfl (evc rfl (evc (by rw [i_lit i (by omega)]; exact rfl) evn))) (fun w => by kernel_rfl)) rfl ?_
        refine s_e rfl ?_
        refine e_bsliceL (e := 23) (m := [(0, .agg #[.bool false, .int .i64 (((UInt64.ofNat (u64of (ks.getD i default) % 3)).toInt64).toInt), .int .i64 (((atL vs i)).toInt), .int .i64 (((Int64.ofNat i)).toInt)])]) (l := [.bool false, .int .i64 (((UInt64.ofNat (u64of (ks.getD i default) % 3)).toInt64).toInt), .int .i64 (((atL vs i)).toInt), .int .i64 (((Int64.ofNat i)).toInt)]) (evc rfl evn) (fun w => by kernel_rfl) ?_
        intro b_18
        refine s_e rfl ?_
        refine e_appendL (enc := recV) (xs := (xs : List Rec)) (ns := ([(Rec.mk false ((UInt64.ofNat (u64of (ks.getD i default) % 3)).toInt64) (atL vs i) (Int64.ofNat i))] : List Rec)) (zs := (xs ++ [(Rec.mk false ((UInt64.ofNat (u64of (ks.getD i default) % 3)).toInt64) (atL vs i) (Int64.ofNat i))])) (bytes := 32) recV_len recV_one Try.underlying69 (i := Try.t23) rfl rfl rfl rfl rfl (by decide) rfl rfl (by first | rfl | omega) (by first | rfl | omega) (.t (.t .h)) (fun w hs => celR .h w hs) (by first | rfl | simp) (by (try simp only [List.length_append, List.length_cons, List.length_nil] at *); omega) (by (try simp only [List.length_append, List.length_cons, List.length_nil] at *); omega) ?_
        intro a_19 c_20
        refine s_y (v := .slice a_19 ((xs ++ [(Rec.mk false ((UInt64.ofNat (u64of (ks.getD i default) % 3)).toInt64) (atL vs i) (Int64.ofNat i))]).length) c_20) (y_assign rfl) rfl ?_
        refine wpL_nil ?_
        refine thenS_n ?_
        refine wpS_region ?_
        refine s_y (v := .slice a2 ys.length c2) (y_move h11_2) rfl ?_
        refine s_y (v := .int .i64 (((UInt64.ofNat (u64of (ks.getD i default) % 3)).toInt64).toInt)) (y_move rfl) rfl ?_
        refine s_y (v := .func (.func 95) #[] #[]) (y_move h9_2) rfl ?_
        refine s_y (v := .slice e ne ce) (y_move h2_2) rfl ?_
        refine s_y (v := .int .i64 (((i : Nat) : Int))) (y_move h12_2) rfl ?_
        refine s_y (v := .int .i64 (((atL os i)).toInt)) (y_callV (cap := #[]) (args := #[.slice e ne ce, .int .i64 (((i : Nat) : Int))]) (args' := #[.slice e ne ce, .int .i64 (((i : Nat) : Int))]) (v := .int .i64 (((atL os i)).toInt)) rfl Try.call95 (ev2 rfl rfl) rfl (fun w hs => at_c e ne ce os i w (by omega) hne ((oldR hre) w hs))) rfl ?_
        refine s_y (v := .int .i64 (((i : Nat) : Int))) (y_move h12_2) rfl ?_
        refine s_y (v := .agg #[.bool false, .int .i64 (((UInt64.ofNat (u64of (ks.getD i default) % 3)).toInt64).toInt), .int .i64 (((atL os i)).toInt), .int .i64 (((Int64.ofNat i)).toInt)]) (y_buildL (m := [(1, .int .i64 (((UInt64.ofNat (u64of (ks.getD i default) % 3)).toInt64).toInt)), (2, .int .i64 (((atL os i)).toInt)), (3, .int .i64 (((Int64.ofNat i)).toInt))]) (vs := #[.bool false, .int .i64 (((UInt64.ofNat (u64of (ks.getD i default) % 3)).toInt64).toInt), .int .i64 (((atL os i)).toInt), .int .i64 (((Int64.ofNat i)).toInt)]) (evc rfl (evc rfl (evc (by rw [i_lit i (by omega)]; exact rfl) evn))) (fun w => by kernel_rfl)) rfl ?_
        refine s_e rfl ?_
        refine e_bsliceL (e := 23) (m := [(0, .agg #[.bool false, .int .i64 (((UInt64.ofNat (u64of (ks.getD i default) % 3)).toInt64).toInt), .int .i64 (((atL os i)).toInt), .int .i64 (((Int64.ofNat i)).toInt)])]) (l := [.bool false, .int .i64 (((UInt64.ofNat (u64of (ks.getD i default) % 3)).toInt64).toInt), .int .i64 (((atL os i)).toInt), .int .i64 (((Int64.ofNat i)).toInt)]) (evc rfl evn) (fun w => by kernel_rfl) ?_
        intro b_21
        refine s_e rfl ?_
        refine e_appendL (enc := recV) (xs := (ys : List Rec)) (ns := ([(Rec.mk false ((UInt64.ofNat (u64of (ks.getD i default) % 3)).toInt64) (atL os i) (Int64.ofNat i))] : List Rec)) (zs := (ys ++ [(Rec.mk false ((UInt64.ofNat (u64of (ks.getD i default) % 3)).toInt64) (atL os i) (Int64.ofNat i))])) (bytes := 32) recV_len recV_one Try.underlying69 (i := Try.t23) rfl rfl rfl rfl rfl (by decide) rfl rfl (by first | rfl | omega) (by first | rfl | omega) (.t (.t (.t .h))) (fun w hs => celR .h w hs) (by first | rfl | simp) (by (try simp only [List.length_append, List.length_cons, List.length_nil] at *); omega) (by (try simp only [List.length_append, List.length_cons, List.length_nil] at *); omega) ?_
        intro a_22 c_23
        refine s_y (v := .slice a_22 ((ys ++ [(Rec.mk false ((UInt64.ofNat (u64of (ks.getD i default) % 3)).toInt64) (atL os i) (Int64.ofNat i))]).length) c_23) (y_assign rfl) rfl ?_
        refine wpL_nil ?_
        refine blockS_n ?_
        refine thenS_n ?_
        refine wpS_region ?_
        refine s_y (v := .int .i64 (((i : Nat) : Int))) (y_move h12_2) rfl ?_
        refine s_y (v := .int .i64 ((((i + 1) : Nat) : Int))) (y_add (a := ((i : Nat) : Int)) (b := 1) (c := (((i + 1) : Nat) : Int)) rfl rfl (wI (by omega) (by omega) (by omega))) rfl ?_
        refine s_y (v := .int .i64 ((((i + 1) : Nat) : Int))) (y_assign rfl) rfl ?_
        refine wpL_nil ?_
        refine thenS_n ?_
        exact ⟨_, by omega, ⟨(i + 1), (xs ++ [(Rec.mk false ((UInt64.ofNat (u64of (ks.getD i default) % 3)).toInt64) (atL vs i) (Int64.ofNat i))]), a_19, c_20, (ys ++ [(Rec.mk false ((UInt64.ofNat (u64of (ks.getD i default) % 3)).toInt64) (atL os i) (Int64.ofNat i))]), a_22, c_23, rfl, by omega, (by rw [List.length_append, List.length_singleton]; omega), (by rw [List.length_append, List.length_singleton]; omega), (by first | exact pl_t (by assumption) (by assumption) | exact pl_f (by assumption) (by first | assumption | exact getD_out (by omega))), (by first | exact pl_t (by assumption) (by assumption) | exact pl_f (by assumption) (by first | assumption | exact getD_out (by omega))), rfl, h0_2, h1_2, h2_2, h3_2, h9_2, rfl, rfl, rfl, .p .h (.p (.t .h) .nil)⟩⟩
    · -- decide (i < na) false
      have p3 := of_decide_eq_false b3
      refine wpS_exit ?_
      refine thenS_x ?_
      refine thenS_x ?_
      refine blockS_h ?_
      refine thenS_n ?_
      refine wpS_seq ?_
      refine wpS_region ?_
      refine s_e rfl ?_
      refine e_call (f := 94) (args := #[]) (X := Nat) (A := []) (M := [osl a2 c2 ys.length 4 23 (ys.flatMap recV), osl a1 c1 xs.length 4 23 (xs.flatMap recV)]) (V := fun b : Nat => .agg #[.int .i64 1, .slice none 0 0, .slice (some ⟨b, 0, none⟩) 1 1, .slice none 0 0]) (A' := fun b : Nat => [cel b 86 [.int .i64 2, .int .i64 0, .int .i64 0, .int .i64 1, .int .i64 0, .int .i64 0]]) (C := fun _ => True) Try.call94 ev0 (.p .h (.p .h .nil)) (fun w hs => sum_c w) ?_
      rintro b_24 -
      refine s_y (v := .agg #[.bool true, .int .i64 0, .int .i64 0, .int .i64 0]) (y_buildL (m := [(0, .bool true)]) (vs := #[.bool true, .int .i64 0, .int .i64 0, .int .i64 0]) (evc rfl evn) (fun w => by kernel_rfl)) rfl ?_
      refine s_y (v := .slice a1 xs.length c1) (y_move h10_2) rfl ?_
      refine s_e rfl ?_
      refine e_call (f := 91) (args := #[.agg #[.int .i64 1, .slice none 0 0, .slice (some ⟨b_24, 0, none⟩) 1 1, .slice none 0 0], .agg #[.bool true, .int .i64 0, .int .i64 0, .int .i64 0], .slice a1 xs.length c1]) (X := Option Addr × Nat) (A := []) (M := [cel b_24 86 [.int .i64 2, .int .i64 0, .int .i64 0, .int .i64 1, .int .i64 0, .int .i64 0], osl a2 c2 ys.length 4 23 (ys.flatMap recV), osl a1 c1 xs.length 4 23 (xs.flatMap recV)]) (V := fun x => .tuple #[slV (stepO (chkB 1 ([]) ([(Opc.mk 2 0 0 1 0 0)]) ([])) ([(Opc.mk 2 0 0 1 0 0)]) ([]) (Rec.mk true 0 0 0) xs) x, .agg #[.bool ((stepC (chkB 1 ([]) ([(Opc.mk 2 0 0 1 0 0)]) ([])) ([(Opc.mk 2 0 0 1 0 0)]) ([]) (Rec.mk true 0 0 0) xs).dead), .int .i64 (((stepC (chkB 1 ([]) ([(Opc.mk 2 0 0 1 0 0)]) ([])) ([(Opc.mk 2 0 0 1 0 0)]) ([]) (Rec.mk true 0 0 0) xs).key).toInt), .int .i64 (((stepC (chkB 1 ([]) ([(Opc.mk 2 0 0 1 0 0)]) ([])) ([(Opc.mk 2 0 0 1 0 0)]) ([]) (Rec.mk true 0 0 0) xs).value).toInt), .int .i64 (((stepC (chkB 1 ([]) ([(Opc.mk 2 0 0 1 0 0)]) ([])) ([(Opc.mk 2 0 0 1 0 0)]) ([]) (Rec.mk true 0 0 0) xs).seq).toInt)]]) (A' := fun x => [slR recV 4 23 (stepO (chkB 1 ([]) ([(Opc.mk 2 0 0 1 0 0)]) ([])) ([(Opc.mk 2 0 0 1 0 0)]) ([]) (Rec.mk true 0 0 0) xs) x]) (C := fun _ => True) Try.call91 (ev3 rfl rfl rfl) (.p .h (.p .h (.p .h .nil))) (fun w hs => cstep_c 1 none (some ⟨b_24, 0, none⟩) none 0 0 1 1 0 0 ([]) ([(Opc.mk 2 0 0 1 0 0)]) ([]) (Rec.mk true 0 0 0) a1 xs.length c1 xs w (by first | rfl | (simp only [List.length_set]; done) | omega) (Rds.nil _ _) (by omega) (by first | rfl | (simp only [List.length_set]; done) | omega) (celR .h w hs) (by omega) (by first | rfl | (simp only [List.length_set]; done) | omega) (Rds.nil _ _) (by omega) rfl (oslR (.t (.t .h)) w hs) (by omega)) ?_
      rintro ⟨a_25, c_26⟩ -
      have hso28 : (stepO (chkB 1 ([]) ([(Opc.mk 2 0 0 1 0 0)]) ([])) ([(Opc.mk 2 0 0 1 0 0)]) ([]) (Rec.mk true 0 0 0) xs).length = xs.length := stepO_len sum_ok
      try simp only [List.length_cons, List.length_nil, Nat.zero_add] at hso28
      refine s_y (v := .tuple #[.slice a_25 ((stepO (chkB 1 ([]) ([(Opc.mk 2 0 0 1 0 0)]) ([])) ([(Opc.mk 2 0 0 1 0 0)]) ([]) (Rec.mk true 0 0 0) xs).length) c_26, .agg #[.bool ((stepC (chkB 1 ([]) ([(Opc.mk 2 0 0 1 0 0)]) ([])) ([(Opc.mk 2 0 0 1 0 0)]) ([]) (Rec.mk true 0 0 0) xs).dead), .int .i64 (((stepC (chkB 1 ([]) ([(Opc.mk 2 0 0 1 0 0)]) ([])) ([(Opc.mk 2 0 0 1 0 0)]) ([]) (Rec.mk true 0 0 0) xs).key).toInt), .int .i64 (((stepC (chkB 1 ([]) ([(Opc.mk 2 0 0 1 0 0)]) ([])) ([(Opc.mk 2 0 0 1 0 0)]) ([]) (Rec.mk true 0 0 0) xs).value).toInt), .int .i64 (((stepC (chkB 1 ([]) ([(Opc.mk 2 0 0 1 0 0)]) ([])) ([(Opc.mk 2 0 0 1 0 0)]) ([]) (Rec.mk true 0 0 0) xs).seq).toInt)]]) (y_move rfl) rfl ?_
      refine s_y (v := .slice a_25 ((stepO (chkB 1 ([]) ([(Opc.mk 2 0 0 1 0 0)]) ([])) ([(Opc.mk 2 0 0 1 0 0)]) ([]) (Rec.mk true 0 0 0) xs).length) c_26) (y_extract (v := .slice a_25 ((stepO (chkB 1 ([]) ([(Opc.mk 2 0 0 1 0 0)]) ([])) ([(Opc.mk 2 0 0 1 0 0)]) ([]) (Rec.mk true 0 0 0) xs).length) c_26) rfl rfl) rfl ?_
      refine s_y (v := .agg #[.bool ((stepC (chkB 1 ([]) ([(Opc.mk 2 0 0 1 0 0)]) ([])) ([(Opc.mk 2 0 0 1 0 0)]) ([]) (Rec.mk true 0 0 0) xs).dead), .int .i64 (((stepC (chkB 1 ([]) ([(Opc.mk 2 0 0 1 0 0)]) ([])) ([(Opc.mk 2 0 0 1 0 0)]) ([]) (Rec.mk true 0 0 0) xs).key).toInt), .int .i64 (((stepC (chkB 1 ([]) ([(Opc.mk 2 0 0 1 0 0)]) ([])) ([(Opc.mk 2 0 0 1 0 0)]) ([]) (Rec.mk true 0 0 0) xs).value).toInt), .int .i64 (((stepC (chkB 1 ([]) ([(Opc.mk 2 0 0 1 0 0)]) ([])) ([(Opc.mk 2 0 0 1 0 0)]) ([]) (Rec.mk true 0 0 0) xs).seq).toInt)]) (y_extract (v := .agg #[.bool ((stepC (chkB 1 ([]) ([(Opc.mk 2 0 0 1 0 0)]) ([])) ([(Opc.mk 2 0 0 1 0 0)]) ([]) (Rec.mk true 0 0 0) xs).dead), .int .i64 (((stepC (chkB 1 ([]) ([(Opc.mk 2 0 0 1 0 0)]) ([])) ([(Opc.mk 2 0 0 1 0 0)]) ([]) (Rec.mk true 0 0 0) xs).key).toInt), .int .i64 (((stepC (chkB 1 ([]) ([(Opc.mk 2 0 0 1 0 0)]) ([])) ([(Opc.mk 2 0 0 1 0 0)]) ([]) (Rec.mk true 0 0 0) xs).value).toInt), .int .i64 (((stepC (chkB 1 ([]) ([(Opc.mk 2 0 0 1 0 0)]) ([])) ([(Opc.mk 2 0 0 1 0 0)]) ([]) (Rec.mk true 0 0 0) xs).seq).toInt)]) rfl rfl) rfl ?_
      refine s_e rfl ?_
      refine e_alloc (l := [.bool false, .int .i64 0, .int .i64 0, .int .i64 0]) Try.zeroValue23 rfl ?_
      intro b_29
      refine s_y (v := .slice a_25 ((stepO (chkB 1 ([]) ([(Opc.mk 2 0 0 1 0 0)]) ([])) ([(Opc.mk 2 0 0 1 0 0)]) ([]) (Rec.mk true 0 0 0) xs).length) c_26) (y_assign rfl) rfl ?_
      refine s_e0 ?_
      refine e_store (vs := [.bool ((stepC (chkB 1 ([]) ([(Opc.mk 2 0 0 1 0 0)]) ([])) ([(Opc.mk 2 0 0 1 0 0)]) ([]) (Rec.mk true 0 0 0) xs).dead), .int .i64 (((stepC (chkB 1 ([]) ([(Opc.mk 2 0 0 1 0 0)]) ([])) ([(Opc.mk 2 0 0 1 0 0)]) ([]) (Rec.mk true 0 0 0) xs).key).toInt), .int .i64 (((stepC (chkB 1 ([]) ([(Opc.mk 2 0 0 1 0 0)]) ([])) ([(Opc.mk 2 0 0 1 0 0)]) ([]) (Rec.mk true 0 0 0) xs).value).toInt), .int .i64 (((stepC (chkB 1 ([]) ([(Opc.mk 2 0 0 1 0 0)]) ([])) ([(Opc.mk 2 0 0 1 0 0)]) ([]) (Rec.mk true 0 0 0) xs).seq).toInt)]) (l' := [.bool ((stepC (chkB 1 ([]) ([(Opc.mk 2 0 0 1 0 0)]) ([])) ([(Opc.mk 2 0 0 1 0 0)]) ([]) (Rec.mk true 0 0 0) xs).dead), .int .i64 (((stepC (chkB 1 ([]) ([(Opc.mk 2 0 0 1 0 0)]) ([])) ([(Opc.mk 2 0 0 1 0 0)]) ([]) (Rec.mk true 0 0 0) xs).key).toInt), .int .i64 (((stepC (chkB 1 ([]) ([(Opc.mk 2 0 0 1 0 0)]) ([])) ([(Opc.mk 2 0 0 1 0 0)]) ([]) (Rec.mk true 0 0 0) xs).value).toInt), .int .i64 (((stepC (chkB 1 ([]) ([(Opc.mk 2 0 0 1 0 0)]) ([])) ([(Opc.mk 2 0 0 1 0 0)]) ([]) (Rec.mk true 0 0 0) xs).seq).toInt)]) rfl rfl rfl rfl Try.sizeOf23 .h (Nat.le_of_ble_eq_true rfl) rfl ?_
      refine wpL_nil ?_
      refine thenS_n ?_
      refine wpS_seq ?_
      refine wpS_region ?_
      refine s_e rfl ?_
      refine e_call (f := 94) (args := #[]) (X := Nat) (A := []) (M := [cel b_29 23 [.bool ((stepC (chkB 1 ([]) ([(Opc.mk 2 0 0 1 0 0)]) ([])) ([(Opc.mk 2 0 0 1 0 0)]) ([]) (Rec.mk true 0 0 0) xs).dead), .int .i64 (((stepC (chkB 1 ([]) ([(Opc.mk 2 0 0 1 0 0)]) ([])) ([(Opc.mk 2 0 0 1 0 0)]) ([]) (Rec.mk true 0 0 0) xs).key).toInt), .int .i64 (((stepC (chkB 1 ([]) ([(Opc.mk 2 0 0 1 0 0)]) ([])) ([(Opc.mk 2 0 0 1 0 0)]) ([]) (Rec.mk true 0 0 0) xs).value).toInt), .int .i64 (((stepC (chkB 1 ([]) ([(Opc.mk 2 0 0 1 0 0)]) ([])) ([(Opc.mk 2 0 0 1 0 0)]) ([]) (Rec.mk true 0 0 0) xs).seq).toInt)], osl a_25 c_26 ((stepO (chkB 1 ([]) ([(Opc.mk 2 0 0 1 0 0)]) ([])) ([(Opc.mk 2 0 0 1 0 0)]) ([]) (Rec.mk true 0 0 0) xs).length) 4 23 ((stepO (chkB 1 ([]) ([(Opc.mk 2 0 0 1 0 0)]) ([])) ([(Opc.mk 2 0 0 1 0 0)]) ([]) (Rec.mk true 0 0 0) xs).flatMap recV), cel b_24 86 [.int .i64 2, .int .i64 0, .int .i64 0, .int .i64 1, .int .i64 0, .int .i64 0], osl a2 c2 ys.length 4 23 (ys.flatMap recV), osl a1 c1 xs.length 4 23 (xs.flatMap recV)]) (V := fun b : Nat => .agg #[.int .i64 1, .slice none 0 0, .slice (some ⟨b, 0, none⟩) 1 1, .slice none 0 0]) (A' := fun b : Nat => [cel b 86 [.int .i64 2, .int .i64 0, .int .i64 0, .int .i64 1, .int .i64 0, .int .i64 0]]) (C := fun _ => True) Try.call94 ev0 (.p .h (.p .h (.p .h (.p .h (.p .h .nil))))) (fun w hs => sum_c w) ?_
      rintro b_30 -
      refine s_y (v := .agg #[.bool true, .int .i64 0, .int .i64 0, .int .i64 0]) (y_buildL (m := [(0, .bool true)]) (vs := #[.bool true, .int .i64 0, .int .i64 0, .int .i64 0]) (evc rfl evn) (fun w => by kernel_rfl)) rfl ?_
      refine s_y (v := .slice a2 ys.length c2) (y_move h11_2) rfl ?_
      refine s_e rfl ?_
      refine e_call (f := 91) (args := #[.agg #[.int .i64 1, .slice none 0 0, .slice (some ⟨b_30, 0, none⟩) 1 1, .slice none 0 0], .agg #[.bool true, .int .i64 0, .int .i64 0, .int .i64 0], .slice a2 ys.length c2]) (X := Option Addr × Nat) (A := []) (M := [cel b_30 86 [.int .i64 2, .int .i64 0, .int .i64 0, .int .i64 1, .int .i64 0, .int .i64 0], cel b_29 23 [.bool ((stepC (chkB 1 ([]) ([(Opc.mk 2 0 0 1 0 0)]) ([])) ([(Opc.mk 2 0 0 1 0 0)]) ([]) (Rec.mk true 0 0 0) xs).dead), .int .i64 (((stepC (chkB 1 ([]) ([(Opc.mk 2 0 0 1 0 0)]) ([])) ([(Opc.mk 2 0 0 1 0 0)]) ([]) (Rec.mk true 0 0 0) xs).key).toInt), .int .i64 (((stepC (chkB 1 ([]) ([(Opc.mk 2 0 0 1 0 0)]) ([])) ([(Opc.mk 2 0 0 1 0 0)]) ([]) (Rec.mk true 0 0 0) xs).value).toInt), .int .i64 (((stepC (chkB 1 ([]) ([(Opc.mk 2 0 0 1 0 0)]) ([])) ([(Opc.mk 2 0 0 1 0 0)]) ([]) (Rec.mk true 0 0 0) xs).seq).toInt)], osl a_25 c_26 ((stepO (chkB 1 ([]) ([(Opc.mk 2 0 0 1 0 0)]) ([])) ([(Opc.mk 2 0 0 1 0 0)]) ([]) (Rec.mk true 0 0 0) xs).length) 4 23 ((stepO (chkB 1 ([]) ([(Opc.mk 2 0 0 1 0 0)]) ([])) ([(Opc.mk 2 0 0 1 0 0)]) ([]) (Rec.mk true 0 0 0) xs).flatMap recV), cel b_24 86 [.int .i64 2, .int .i64 0, .int .i64 0, .int .i64 1, .int .i64 0, .int .i64 0], osl a2 c2 ys.length 4 23 (ys.flatMap recV), osl a1 c1 xs.length 4 23 (xs.flatMap recV)]) (V := fun x => .tuple #[slV (stepO (chkB 1 ([]) ([(Opc.mk 2 0 0 1 0 0)]) ([])) ([(Opc.mk 2 0 0 1 0 0)]) ([]) (Rec.mk true 0 0 0) ys) x, .agg #[.bool ((stepC (chkB 1 ([]) ([(Opc.mk 2 0 0 1 0 0)]) ([])) ([(Opc.mk 2 0 0 1 0 0)]) ([]) (Rec.mk true 0 0 0) ys).dead), .int .i64 (((stepC (chkB 1 ([]) ([(Opc.mk 2 0 0 1 0 0)]) ([])) ([(Opc.mk 2 0 0 1 0 0)]) ([]) (Rec.mk true 0 0 0) ys).key).toInt), .int .i64 (((stepC (chkB 1 ([]) ([(Opc.mk 2 0 0 1 0 0)]) ([])) ([(Opc.mk 2 0 0 1 0 0)]) ([]) (Rec.mk true 0 0 0) ys).value).toInt), .int .i64 (((stepC (chkB 1 ([]) ([(Opc.mk 2 0 0 1 0 0)]) ([])) ([(Opc.mk 2 0 0 1 0 0)]) ([]) (Rec.mk true 0 0 0) ys).seq).toInt)]]) (A' := fun x => [slR recV 4 23 (stepO (chkB 1 ([]) ([(Opc.mk 2 0 0 1 0 0)]) ([])) ([(Opc.mk 2 0 0 1 0 0)]) ([]) (Rec.mk true 0 0 0) ys) x]) (C := fun _ => True) Try.call91 (ev3 rfl rfl rfl) (.p .h (.p .h (.p .h (.p .h (.p .h (.p .h .nil)))))) (fun w hs => cstep_c 1 none (some ⟨b_30, 0, none⟩) none 0 0 1 1 0 0 ([]) ([(Opc.mk 2 0 0 1 0 0)]) ([]) (Rec.mk true 0 0 0) a2 ys.length c2 ys w (by first | rfl | (simp only [List.length_set]; done) | omega) (Rds.nil _ _) (by omega) (by first | rfl | (simp only [List.length_set]; done) | omega) (celR .h w hs) (by omega) (by first | rfl | (simp only [List.length_set]; done) | omega) (Rds.nil _ _) (by omega) rfl (oslR (.t (.t (.t (.t .h)))) w hs) (by omega)) ?_
      rintro ⟨a_31, c_32⟩ -
      have hso34 : (stepO (chkB 1 ([]) ([(Opc.mk 2 0 0 1 0 0)]) ([])) ([(Opc.mk 2 0 0 1 0 0)]) ([]) (Rec.mk true 0 0 0) ys).length = ys.length := stepO_len sum_ok
      try simp only [List.length_cons, List.length_nil, Nat.zero_add] at hso34
      refine s_y (v := .tuple #[.slice a_31 ((stepO (chkB 1 ([]) ([(Opc.mk 2 0 0 1 0 0)]) ([])) ([(Opc.mk 2 0 0 1 0 0)]) ([]) (Rec.mk true 0 0 0) ys).length) c_32, .agg #[.bool ((stepC (chkB 1 ([]) ([(Opc.mk 2 0 0 1 0 0)]) ([])) ([(Opc.mk 2 0 0 1 0 0)]) ([]) (Rec.mk true 0 0 0) ys).dead), .int .i64 (((stepC (chkB 1 ([]) ([(Opc.mk 2 0 0 1 0 0)]) ([])) ([(Opc.mk 2 0 0 1 0 0)]) ([]) (Rec.mk true 0 0 0) ys).key).toInt), .int .i64 (((stepC (chkB 1 ([]) ([(Opc.mk 2 0 0 1 0 0)]) ([])) ([(Opc.mk 2 0 0 1 0 0)]) ([]) (Rec.mk true 0 0 0) ys).value).toInt), .int .i64 (((stepC (chkB 1 ([]) ([(Opc.mk 2 0 0 1 0 0)]) ([])) ([(Opc.mk 2 0 0 1 0 0)]) ([]) (Rec.mk true 0 0 0) ys).seq).toInt)]]) (y_move rfl) rfl ?_
      refine s_y (v := .slice a_31 ((stepO (chkB 1 ([]) ([(Opc.mk 2 0 0 1 0 0)]) ([])) ([(Opc.mk 2 0 0 1 0 0)]) ([]) (Rec.mk true 0 0 0) ys).length) c_32) (y_extract (v := .slice a_31 ((stepO (chkB 1 ([]) ([(Opc.mk 2 0 0 1 0 0)]) ([])) ([(Opc.mk 2 0 0 1 0 0)]) ([]) (Rec.mk true 0 0 0) ys).length) c_32) rfl rfl) rfl ?_
      refine s_y (v := .agg #[.bool ((stepC (chkB 1 ([]) ([(Opc.mk 2 0 0 1 0 0)]) ([])) ([(Opc.mk 2 0 0 1 0 0)]) ([]) (Rec.mk true 0 0 0) ys).dead), .int .i64 (((stepC (chkB 1 ([]) ([(Opc.mk 2 0 0 1 0 0)]) ([])) ([(Opc.mk 2 0 0 1 0 0)]) ([]) (Rec.mk true 0 0 0) ys).key).toInt), .int .i64 (((stepC (chkB 1 ([]) ([(Opc.mk 2 0 0 1 0 0)]) ([])) ([(Opc.mk 2 0 0 1 0 0)]) ([]) (Rec.mk true 0 0 0) ys).value).toInt), .int .i64 (((stepC (chkB 1 ([]) ([(Opc.mk 2 0 0 1 0 0)]) ([])) ([(Opc.mk 2 0 0 1 0 0)]) ([]) (Rec.mk true 0 0 0) ys).seq).toInt)]) (y_extract (v := .agg #[.bool ((stepC (chkB 1 ([]) ([(Opc.mk 2 0 0 1 0 0)]) ([])) ([(Opc.mk 2 0 0 1 0 0)]) ([]) (Rec.mk true 0 0 0) ys).dead), .int .i64 (((stepC (chkB 1 ([]) ([(Opc.mk 2 0 0 1 0 0)]) ([])) ([(Opc.mk 2 0 0 1 0 0)]) ([]) (Rec.mk true 0 0 0) ys).key).toInt), .int .i64 (((stepC (chkB 1 ([]) ([(Opc.mk 2 0 0 1 0 0)]) ([])) ([(Opc.mk 2 0 0 1 0 0)]) ([]) (Rec.mk true 0 0 0) ys).value).toInt), .int .i64 (((stepC (chkB 1 ([]) ([(Opc.mk 2 0 0 1 0 0)]) ([])) ([(Opc.mk 2 0 0 1 0 0)]) ([]) (Rec.mk true 0 0 0) ys).seq).toInt)]) rfl rfl) rfl ?_
      refine s_e rfl ?_
      refine e_alloc (l := [.bool false, .int .i64 0, .int .i64 0, .int .i64 0]) Try.zeroValue23 rfl ?_
      intro b_35
      refine s_y (v := .slice a_31 ((stepO (chkB 1 ([]) ([(Opc.mk 2 0 0 1 0 0)]) ([])) ([(Opc.mk 2 0 0 1 0 0)]) ([]) (Rec.mk true 0 0 0) ys).length) c_32) (y_assign rfl) rfl ?_
      refine s_e0 ?_
      refine e_store (vs := [.bool ((stepC (chkB 1 ([]) ([(Opc.mk 2 0 0 1 0 0)]) ([])) ([(Opc.mk 2 0 0 1 0 0)]) ([]) (Rec.mk true 0 0 0) ys).dead), .int .i64 (((stepC (chkB 1 ([]) ([(Opc.mk 2 0 0 1 0 0)]) ([])) ([(Opc.mk 2 0 0 1 0 0)]) ([]) (Rec.mk true 0 0 0) ys).key).toInt), .int .i64 (((stepC (chkB 1 ([]) ([(Opc.mk 2 0 0 1 0 0)]) ([])) ([(Opc.mk 2 0 0 1 0 0)]) ([]) (Rec.mk true 0 0 0) ys).value).toInt), .int .i64 (((stepC (chkB 1 ([]) ([(Opc.mk 2 0 0 1 0 0)]) ([])) ([(Opc.mk 2 0 0 1 0 0)]) ([]) (Rec.mk true 0 0 0) ys).seq).toInt)]) (l' := [.bool ((stepC (chkB 1 ([]) ([(Opc.mk 2 0 0 1 0 0)]) ([])) ([(Opc.mk 2 0 0 1 0 0)]) ([]) (Rec.mk true 0 0 0) ys).dead), .int .i64 (((stepC (chkB 1 ([]) ([(Opc.mk 2 0 0 1 0 0)]) ([])) ([(Opc.mk 2 0 0 1 0 0)]) ([]) (Rec.mk true 0 0 0) ys).key).toInt), .int .i64 (((stepC (chkB 1 ([]) ([(Opc.mk 2 0 0 1 0 0)]) ([])) ([(Opc.mk 2 0 0 1 0 0)]) ([]) (Rec.mk true 0 0 0) ys).value).toInt), .int .i64 (((stepC (chkB 1 ([]) ([(Opc.mk 2 0 0 1 0 0)]) ([])) ([(Opc.mk 2 0 0 1 0 0)]) ([]) (Rec.mk true 0 0 0) ys).seq).toInt)]) rfl rfl rfl rfl Try.sizeOf23 .h (Nat.le_of_ble_eq_true rfl) rfl ?_
      refine wpL_nil ?_
      refine thenS_n ?_
      refine wpS_seq ?_
      refine wpS_seq ?_
      refine wpS_region ?_
      refine s_y (v := .bool true) (y_call (args := #[]) (v := .bool true) Try.call90 ev0 (fun w hs => awake15_c w)) rfl ?_
      refine s_y (v := .bool false) (y_notK (b := true) (c := false) rfl rfl) rfl ?_
      refine s_y (v := .bool false) (y_move rfl) rfl ?_
      refine s_gy (y_move rfl) rfl rfl rfl rfl rfl rfl ?_
      refine s_gy (y_len (ty' := 0) (at_ := #[]) rfl Try.underlying69) rfl rfl rfl rfl rfl rfl ?_
      refine s_gy (y_move h10_2) rfl rfl rfl rfl rfl rfl ?_
      refine s_gy (y_len (ty' := 0) (at_ := #[]) rfl Try.underlying69) rfl rfl rfl rfl rfl rfl ?_
      refine s_gy (y_neq (a := (((stepO (chkB 1 ([]) ([(Opc.mk 2 0 0 1 0 0)]) ([])) ([(Opc.mk 2 0 0 1 0 0)]) ([]) (Rec.mk true 0 0 0) xs).length : Nat) : Int)) (b := ((xs.length : Nat) : Int)) (c := decide (((stepO (chkB 1 ([]) ([(Opc.mk 2 0 0 1 0 0)]) ([])) ([(Opc.mk 2 0 0 1 0 0)]) ([]) (Rec.mk true 0 0 0) xs).length) ≠ xs.length)) rfl rfl (decide_eq_decide.2 (by omega))) rfl rfl rfl rfl rfl rfl ?_
      refine s_y (v := .bool (decide (((stepO (chkB 1 ([]) ([(Opc.mk 2 0 0 1 0 0)]) ([])) ([(Opc.mk 2 0 0 1 0 0)]) ([]) (Rec.mk true 0 0 0) xs).length) ≠ xs.length))) (y_pickF (v := .bool (decide (((stepO (chkB 1 ([]) ([(Opc.mk 2 0 0 1 0 0)]) ([])) ([(Opc.mk 2 0 0 1 0 0)]) ([]) (Rec.mk true 0 0 0) xs).length) ≠ xs.length))) rfl rfl rfl) rfl ?_
      refine s_y (v := .bool (decide (((stepO (chkB 1 ([]) ([(Opc.mk 2 0 0 1 0 0)]) ([])) ([(Opc.mk 2 0 0 1 0 0)]) ([]) (Rec.mk true 0 0 0) xs).length) ≠ xs.length))) (y_move rfl) rfl ?_
      refine s_gy (y_move rfl) rfl rfl rfl rfl (b' := decide (((stepO (chkB 1 ([]) ([(Opc.mk 2 0 0 1 0 0)]) ([])) ([(Opc.mk 2 0 0 1 0 0)]) ([]) (Rec.mk true 0 0 0) xs).length) ≠ xs.length)) rfl (decide_eq_false (by omega)) ?_
      refine s_gy (y_len (ty' := 0) (at_ := #[]) rfl Try.underlying69) rfl rfl rfl rfl (b' := decide (((stepO (chkB 1 ([]) ([(Opc.mk 2 0 0 1 0 0)]) ([])) ([(Opc.mk 2 0 0 1 0 0)]) ([]) (Rec.mk true 0 0 0) xs).length) ≠ xs.length)) rfl (decide_eq_false (by omega)) ?_
      refine s_gy (y_move h11_2) rfl rfl rfl rfl (b' := decide (((stepO (chkB 1 ([]) ([(Opc.mk 2 0 0 1 0 0)]) ([])) ([(Opc.mk 2 0 0 1 0 0)]) ([]) (Rec.mk true 0 0 0) xs).length) ≠ xs.length)) rfl (decide_eq_false (by omega)) ?_
      refine s_gy (y_len (ty' := 0) (at_ := #[]) rfl Try.underlying69) rfl rfl rfl rfl (b' := decide (((stepO (chkB 1 ([]) ([(Opc.mk 2 0 0 1 0 0)]) ([])) ([(Opc.mk 2 0 0 1 0 0)]) ([]) (Rec.mk true 0 0 0) xs).length) ≠ xs.length)) rfl (decide_eq_false (by omega)) ?_
      refine s_gy (y_neq (a := (((stepO (chkB 1 ([]) ([(Opc.mk 2 0 0 1 0 0)]) ([])) ([(Opc.mk 2 0 0 1 0 0)]) ([]) (Rec.mk true 0 0 0) ys).length : Nat) : Int)) (b := ((ys.length : Nat) : Int)) (c := decide (((stepO (chkB 1 ([]) ([(Opc.mk 2 0 0 1 0 0)]) ([])) ([(Opc.mk 2 0 0 1 0 0)]) ([]) (Rec.mk true 0 0 0) ys).length) ≠ ys.length)) rfl rfl (decide_eq_decide.2 (by omega))) rfl rfl rfl rfl (b' := decide (((stepO (chkB 1 ([]) ([(Opc.mk 2 0 0 1 0 0)]) ([])) ([(Opc.mk 2 0 0 1 0 0)]) ([]) (Rec.mk true 0 0 0) xs).length) ≠ xs.length)) rfl (decide_eq_false (by omega)) ?_
      refine s_y (v := .bool (decide (((stepO (chkB 1 ([]) ([(Opc.mk 2 0 0 1 0 0)]) ([])) ([(Opc.mk 2 0 0 1 0 0)]) ([]) (Rec.mk true 0 0 0) ys).length) ≠ ys.length))) (y_pickF (b := decide (((stepO (chkB 1 ([]) ([(Opc.mk 2 0 0 1 0 0)]) ([])) ([(Opc.mk 2 0 0 1 0 0)]) ([]) (Rec.mk true 0 0 0) xs).length) ≠ xs.length)) (v := .bool (decide (((stepO (chkB 1 ([]) ([(Opc.mk 2 0 0 1 0 0)]) ([])) ([(Opc.mk 2 0 0 1 0 0)]) ([]) (Rec.mk true 0 0 0) ys).length) ≠ ys.length))) rfl (decide_eq_false (by omega)) rfl) rfl ?_
      refine s_y (v := .bool (decide (((stepO (chkB 1 ([]) ([(Opc.mk 2 0 0 1 0 0)]) ([])) ([(Opc.mk 2 0 0 1 0 0)]) ([]) (Rec.mk true 0 0 0) ys).length) ≠ ys.length))) (y_move rfl) rfl ?_
      refine s_gy (y_fieldAddr (o' := 0) rfl Try.underlying23 rfl Try.sizeOf4 (by decide) rfl) rfl rfl rfl rfl (b' := decide (((stepO (chkB 1 ([]) ([(Opc.mk 2 0 0 1 0 0)]) ([])) ([(Opc.mk 2 0 0 1 0 0)]) ([]) (Rec.mk true 0 0 0) ys).length) ≠ ys.length)) rfl (decide_eq_false (by omega)) ?_
      refine s_gy (y_load1 rfl Try.isAgg4 (own1 (.t (.t (.t .h))) rfl)) rfl rfl rfl rfl (b' := decide (((stepO (chkB 1 ([]) ([(Opc.mk 2 0 0 1 0 0)]) ([])) ([(Opc.mk 2 0 0 1 0 0)]) ([]) (Rec.mk true 0 0 0) ys).length) ≠ ys.length)) rfl (decide_eq_false (by omega)) ?_
      refine s_gy (y_fieldAddr (o' := 0) rfl Try.underlying23 rfl Try.sizeOf4 (by decide) rfl) rfl rfl rfl rfl (b' := decide (((stepO (chkB 1 ([]) ([(Opc.mk 2 0 0 1 0 0)]) ([])) ([(Opc.mk 2 0 0 1 0 0)]) ([]) (Rec.mk true 0 0 0) ys).length) ≠ ys.length)) rfl (decide_eq_false (by omega)) ?_
      refine s_gy (y_load1 rfl Try.isAgg4 (own1 .h rfl)) rfl rfl rfl rfl (b' := decide (((stepO (chkB 1 ([]) ([(Opc.mk 2 0 0 1 0 0)]) ([])) ([(Opc.mk 2 0 0 1 0 0)]) ([]) (Rec.mk true 0 0 0) ys).length) ≠ ys.length)) rfl (decide_eq_false (by omega)) ?_
      refine s_gy (y_neqB (a := (stepC (chkB 1 ([]) ([(Opc.mk 2 0 0 1 0 0)]) ([])) ([(Opc.mk 2 0 0 1 0 0)]) ([]) (Rec.mk true 0 0 0) xs).dead) (b := (stepC (chkB 1 ([]) ([(Opc.mk 2 0 0 1 0 0)]) ([])) ([(Opc.mk 2 0 0 1 0 0)]) ([]) (Rec.mk true 0 0 0) ys).dead) Try.underlying4 rfl rfl rfl) rfl rfl rfl rfl (b' := decide (((stepO (chkB 1 ([]) ([(Opc.mk 2 0 0 1 0 0)]) ([])) ([(Opc.mk 2 0 0 1 0 0)]) ([]) (Rec.mk true 0 0 0) ys).length) ≠ ys.length)) rfl (decide_eq_false (by omega)) ?_
      refine s_y (v := .bool (!(((stepC (chkB 1 ([]) ([(Opc.mk 2 0 0 1 0 0)]) ([])) ([(Opc.mk 2 0 0 1 0 0)]) ([]) (Rec.mk true 0 0 0) xs).dead) == ((stepC (chkB 1 ([]) ([(Opc.mk 2 0 0 1 0 0)]) ([])) ([(Opc.mk 2 0 0 1 0 0)]) ([]) (Rec.mk true 0 0 0) ys).dead)))) (y_pickF (b := decide (((stepO (chkB 1 ([]) ([(Opc.mk 2 0 0 1 0 0)]) ([])) ([(Opc.mk 2 0 0 1 0 0)]) ([]) (Rec.mk true 0 0 0) ys).length) ≠ ys.length)) (v := .bool (!(((stepC (chkB 1 ([]) ([(Opc.mk 2 0 0 1 0 0)]) ([])) ([(Opc.mk 2 0 0 1 0 0)]) ([]) (Rec.mk true 0 0 0) xs).dead) == ((stepC (chkB 1 ([]) ([(Opc.mk 2 0 0 1 0 0)]) ([])) ([(Opc.mk 2 0 0 1 0 0)]) ([]) (Rec.mk true 0 0 0) ys).dead)))) rfl (decide_eq_false (by omega)) rfl) rfl ?_
      refine s_y (v := .bool (!(((stepC (chkB 1 ([]) ([(Opc.mk 2 0 0 1 0 0)]) ([])) ([(Opc.mk 2 0 0 1 0 0)]) ([]) (Rec.mk true 0 0 0) xs).dead) == ((stepC (chkB 1 ([]) ([(Opc.mk 2 0 0 1 0 0)]) ([])) ([(Opc.mk 2 0 0 1 0 0)]) ([]) (Rec.mk true 0 0 0) ys).dead)))) (y_move rfl) rfl ?_
      refine s_gy (y_fieldAddr (o' := 1) rfl Try.underlying23 rfl Try.sizeOf2 (by decide) rfl) rfl rfl rfl rfl (b' := !(((stepC (chkB 1 ([]) ([(Opc.mk 2 0 0 1 0 0)]) ([])) ([(Opc.mk 2 0 0 1 0 0)]) ([]) (Rec.mk true 0 0 0) xs).dead) == ((stepC (chkB 1 ([]) ([(Opc.mk 2 0 0 1 0 0)]) ([])) ([(Opc.mk 2 0 0 1 0 0)]) ([]) (Rec.mk true 0 0 0) ys).dead))) rfl (by rw [(pl_c (xs := xs) (ys := ys) (vs := vs) (os := os) sum_ok (by assumption) (by assumption)).1]; simp) ?_
      refine s_gy (y_load1 rfl Try.isAgg2 (own1 (.t (.t (.t .h))) rfl)) rfl rfl rfl rfl (b' := !(((stepC (chkB 1 ([]) ([(Opc.mk 2 0 0 1 0 0)]) ([])) ([(Opc.mk 2 0 0 1 0 0)]) ([]) (Rec.mk true 0 0 0) xs).dead) == ((stepC (chkB 1 ([]) ([(Opc.mk 2 0 0 1 0 0)]) ([])) ([(Opc.mk 2 0 0 1 0 0)]) ([]) (Rec.mk true 0 0 0) ys).dead))) rfl (by rw [(pl_c (xs := xs) (ys := ys) (vs := vs) (os := os) sum_ok (by assumption) (by assumption)).1]; simp) ?_
      refine s_gy (y_fieldAddr (o' := 1) rfl Try.underlying23 rfl Try.sizeOf2 (by decide) rfl) rfl rfl rfl rfl (b' := !(((stepC (chkB 1 ([]) ([(Opc.mk 2 0 0 1 0 0)]) ([])) ([(Opc.mk 2 0 0 1 0 0)]) ([]) (Rec.mk true 0 0 0) xs).dead) == ((stepC (chkB 1 ([]) ([(Opc.mk 2 0 0 1 0 0)]) ([])) ([(Opc.mk 2 0 0 1 0 0)]) ([]) (Rec.mk true 0 0 0) ys).dead))) rfl (by rw [(pl_c (xs := xs) (ys := ys) (vs := vs) (os := os) sum_ok (by assumption) (by assumption)).1]; simp) ?_
      refine s_gy (y_load1 rfl Try.isAgg2 (own1 .h rfl)) rfl rfl rfl rfl (b' := !(((stepC (chkB 1 ([]) ([(Opc.mk 2 0 0 1 0 0)]) ([])) ([(Opc.mk 2 0 0 1 0 0)]) ([]) (Rec.mk true 0 0 0) xs).dead) == ((stepC (chkB 1 ([]) ([(Opc.mk 2 0 0 1 0 0)]) ([])) ([(Opc.mk 2 0 0 1 0 0)]) ([]) (Rec.mk true 0 0 0) ys).dead))) rfl (by rw [(pl_c (xs := xs) (ys := ys) (vs := vs) (os := os) sum_ok (by assumption) (by assumption)).1]; simp) ?_
      refine s_gy (y_neq (a := ((stepC (chkB 1 ([]) ([(Opc.mk 2 0 0 1 0 0)]) ([])) ([(Opc.mk 2 0 0 1 0 0)]) ([]) (Rec.mk true 0 0 0) xs).key).toInt) (b := ((stepC (chkB 1 ([]) ([(Opc.mk 2 0 0 1 0 0)]) ([])) ([(Opc.mk 2 0 0 1 0 0)]) ([]) (Rec.mk true 0 0 0) ys).key).toInt) (c := decide (((stepC (chkB 1 ([]) ([(Opc.mk 2 0 0 1 0 0)]) ([])) ([(Opc.mk 2 0 0 1 0 0)]) ([]) (Rec.mk true 0 0 0) xs).key) ≠ ((stepC (chkB 1 ([]) ([(Opc.mk 2 0 0 1 0 0)]) ([])) ([(Opc.mk 2 0 0 1 0 0)]) ([]) (Rec.mk true 0 0 0) ys).key))) rfl rfl (i_neq _ _)) rfl rfl rfl rfl (b' := !(((stepC (chkB 1 ([]) ([(Opc.mk 2 0 0 1 0 0)]) ([])) ([(Opc.mk 2 0 0 1 0 0)]) ([]) (Rec.mk true 0 0 0) xs).dead) == ((stepC (chkB 1 ([]) ([(Opc.mk 2 0 0 1 0 0)]) ([])) ([(Opc.mk 2 0 0 1 0 0)]) ([]) (Rec.mk true 0 0 0) ys).dead))) rfl (by rw [(pl_c (xs := xs) (ys := ys) (vs := vs) (os := os) sum_ok (by assumption) (by assumption)).1]; simp) ?_
      refine s_y (v := .bool (decide (((stepC (chkB 1 ([]) ([(Opc.mk 2 0 0 1 0 0)]) ([])) ([(Opc.mk 2 0 0 1 0 0)]) ([]) (Rec.mk true 0 0 0) xs).key) ≠ ((stepC (chkB 1 ([]) ([(Opc.mk 2 0 0 1 0 0)]) ([])) ([(Opc.mk 2 0 0 1 0 0)]) ([]) (Rec.mk true 0 0 0) ys).key)))) (y_pickF (b := !(((stepC (chkB 1 ([]) ([(Opc.mk 2 0 0 1 0 0)]) ([])) ([(Opc.mk 2 0 0 1 0 0)]) ([]) (Rec.mk true 0 0 0) xs).dead) == ((stepC (chkB 1 ([]) ([(Opc.mk 2 0 0 1 0 0)]) ([])) ([(Opc.mk 2 0 0 1 0 0)]) ([]) (Rec.mk true 0 0 0) ys).dead))) (v := .bool (decide (((stepC (chkB 1 ([]) ([(Opc.mk 2 0 0 1 0 0)]) ([])) ([(Opc.mk 2 0 0 1 0 0)]) ([]) (Rec.mk true 0 0 0) xs).key) ≠ ((stepC (chkB 1 ([]) ([(Opc.mk 2 0 0 1 0 0)]) ([])) ([(Opc.mk 2 0 0 1 0 0)]) ([]) (Rec.mk true 0 0 0) ys).key)))) rfl (by rw [(pl_c (xs := xs) (ys := ys) (vs := vs) (os := os) sum_ok (by assumption) (by assumption)).1]; simp) rfl) rfl ?_
      refine wpL_nil ?_
      refine thenS_n ?_
      refine wpS_cond_F (t := decide (((stepC (chkB 1 ([]) ([(Opc.mk 2 0 0 1 0 0)]) ([])) ([(Opc.mk 2 0 0 1 0 0)]) ([]) (Rec.mk true 0 0 0) xs).key) ≠ ((stepC (chkB 1 ([]) ([(Opc.mk 2 0 0 1 0 0)]) ([])) ([(Opc.mk 2 0 0 1 0 0)]) ([]) (Rec.mk true 0 0 0) ys).key))) rfl (decide_eq_false (fun h => h (pl_c (xs := xs) (ys := ys) (vs := vs) (os := os) sum_ok (by assumption) (by assumption)).2)) ?_
      refine wpS_skip ?_
      refine thenS_n ?_
      refine wpS_seq ?_
      refine wpS_seq ?_
      refine wpS_region ?_
      refine s_y (v := .int .i64 0) (y_assign rfl) rfl ?_
      refine wpL_nil ?_
      refine thenS_n ?_
      refine wpS_block ?_
      refine wpS_loop (fun mez ds σ L => ∃ j : Nat, mez = xs.length - j ∧ (j ≤ xs.length) ∧ ds = [] ∧ σ 14 = .slice a_25 ((stepO (chkB 1 ([]) ([(Opc.mk 2 0 0 1 0 0)]) ([])) ([(Opc.mk 2 0 0 1 0 0)]) ([]) (Rec.mk true 0 0 0) xs).length) c_26 ∧ σ 16 = .slice a_31 ((stepO (chkB 1 ([]) ([(Opc.mk 2 0 0 1 0 0)]) ([])) ([(Opc.mk 2 0 0 1 0 0)]) ([]) (Rec.mk true 0 0 0) ys).length) c_32 ∧ σ 18 = .int .i64 (((j : Nat) : Int)) ∧ Ent L [cel b_35 23 [.bool ((stepC (chkB 1 ([]) ([(Opc.mk 2 0 0 1 0 0)]) ([])) ([(Opc.mk 2 0 0 1 0 0)]) ([]) (Rec.mk true 0 0 0) ys).dead), .int .i64 (((stepC (chkB 1 ([]) ([(Opc.mk 2 0 0 1 0 0)]) ([])) ([(Opc.mk 2 0 0 1 0 0)]) ([]) (Rec.mk true 0 0 0) ys).key).toInt), .int .i64 (((stepC (chkB 1 ([]) ([(Opc.mk 2 0 0 1 0 0)]) ([])) ([(Opc.mk 2 0 0 1 0 0)]) ([]) (Rec.mk true 0 0 0) ys).value).toInt), .int .i64 (((stepC (chkB 1 ([]) ([(Opc.mk 2 0 0 1 0 0)]) ([])) ([(Opc.mk 2 0 0 1 0 0)]) ([]) (Rec.mk true 0 0 0) ys).seq).toInt)], osl a_31 c_32 ((stepO (chkB 1 ([]) ([(Opc.mk 2 0 0 1 0 0)]) ([])) ([(Opc.mk 2 0 0 1 0 0)]) ([]) (Rec.mk true 0 0 0) ys).length) 4 23 ((stepO (chkB 1 ([]) ([(Opc.mk 2 0 0 1 0 0)]) ([])) ([(Opc.mk 2 0 0 1 0 0)]) ([]) (Rec.mk true 0 0 0) ys).flatMap recV), cel b_30 86 [.int .i64 2, .int .i64 0, .int .i64 0, .int .i64 1, .int .i64 0, .int .i64 0], cel b_29 23 [.bool ((stepC (chkB 1 ([]) ([(Opc.mk 2 0 0 1 0 0)]) ([])) ([(Opc.mk 2 0 0 1 0 0)]) ([]) (Rec.mk true 0 0 0) xs).dead), .int .i64 (((stepC (chkB 1 ([]) ([(Opc.mk 2 0 0 1 0 0)]) ([])) ([(Opc.mk 2 0 0 1 0 0)]) ([]) (Rec.mk true 0 0 0) xs).key).toInt), .int .i64 (((stepC (chkB 1 ([]) ([(Opc.mk 2 0 0 1 0 0)]) ([])) ([(Opc.mk 2 0 0 1 0 0)]) ([]) (Rec.mk true 0 0 0) xs).value).toInt), .int .i64 (((stepC (chkB 1 ([]) ([(Opc.mk 2 0 0 1 0 0)]) ([])) ([(Opc.mk 2 0 0 1 0 0)]) ([]) (Rec.mk true 0 0 0) xs).seq).toInt)], osl a_25 c_26 ((stepO (chkB 1 ([]) ([(Opc.mk 2 0 0 1 0 0)]) ([])) ([(Opc.mk 2 0 0 1 0 0)]) ([]) (Rec.mk true 0 0 0) xs).length) 4 23 ((stepO (chkB 1 ([]) ([(Opc.mk 2 0 0 1 0 0)]) ([])) ([(Opc.mk 2 0 0 1 0 0)]) ([]) (Rec.mk true 0 0 0) xs).flatMap recV), cel b_24 86 [.int .i64 2, .int .i64 0, .int .i64 0, .int .i64 1, .int .i64 0, .int .i64 0], osl a2 c2 ys.length 4 23 (ys.flatMap recV), osl a1 c1 xs.length 4 23 (xs.flatMap recV)]) (m0 := xs.length - 0) ⟨0, rfl, by omega, rfl, rfl, rfl, rfl, .p .h (.p .h (.p .h (.p .h (.p .h (.p .h (.p .h (.p .h .nil)))))))⟩ ?_
      rintro mez ds σ L ⟨j, hm_36, hf0_36, rfl, h14_36, h16_36, h18_36, hE_36⟩
      refine wpS_ent hE_36 ?_; clear hE_36
      refine wpS_seq ?_
      refine wpS_seq ?_
      refine wpS_region ?_
      refine s_y (v := .int .i64 (((j : Nat) : Int))) (y_move h18_36) rfl ?_
      refine s_y (v := .slice a_25 ((stepO (chkB 1 ([]) ([(Opc.mk 2 0 0 1 0 0)]) ([])) ([(Opc.mk 2 0 0 1 0 0)]) ([]) (Rec.mk true 0 0 0) xs).length) c_26) (y_move h14_36) rfl ?_
      refine s_y (v := .int .i64 ((((stepO (chkB 1 ([]) ([(Opc.mk 2 0 0 1 0 0)]) ([])) ([(Opc.mk 2 0 0 1 0 0)]) ([]) (Rec.mk true 0 0 0) xs).length : Nat) : Int))) (y_len (ty' := 0) (at_ := #[]) rfl Try.underlying69) rfl ?_
      refine s_y (v := .bool (decide (j < ((stepO (chkB 1 ([]) ([(Opc.mk 2 0 0 1 0 0)]) ([])) ([(Opc.mk 2 0 0 1 0 0)]) ([]) (Rec.mk true 0 0 0) xs).length)))) (y_lss (a := ((j : Nat) : Int)) (b := (((stepO (chkB 1 ([]) ([(Opc.mk 2 0 0 1 0 0)]) ([])) ([(Opc.mk 2 0 0 1 0 0)]) ([]) (Rec.mk true 0 0 0) xs).length : Nat) : Int)) (c := decide (j < ((stepO (chkB 1 ([]) ([(Opc.mk 2 0 0 1 0 0)]) ([])) ([(Opc.mk 2 0 0 1 0 0)]) ([]) (Rec.mk true 0 0 0) xs).length))) rfl rfl (decide_eq_decide.2 (by omega))) rfl ?_
      refine wpL_nil ?_
      refine thenS_n ?_
      refine wpS_cond (t := decide (j < ((stepO (chkB 1 ([]) ([(Opc.mk 2 0 0 1 0 0)]) ([])) ([(Opc.mk 2 0 0 1 0 0)]) ([]) (Rec.mk true 0 0 0) xs).length))) rfl (fun b37 => ?_) (fun b37 => ?_)
      · -- decide (j < ((stepO (chkB 1 ([]) ([(Opc.mk 2 0 0 1 0 0)]) ([])) ([(Opc.mk 2 0 0 1 0 0)]) ([]) (Rec.mk true 0 0 0) xs).length)) true
        have p37 := of_decide_eq_true b37
        have hsg := pl_o (xs := xs) (ys := ys) (f := [Opc.mk 2 0 0 1 0 0]) (g := []) (vs := vs) (os := os) sum_ok (by assumption) (by assumption) (j := j) (by omega)
        have hsd := sig_dead hsg.1
        have hsk := sig_key hsg.1
        have hsq := sig_seq hsg.1
        refine wpS_skip ?_
        refine thenS_n ?_
        refine wpS_seq ?_
        refine wpS_block ?_
        refine wpS_seq ?_
        refine wpS_lex (by kernel_rfl) (by kernel_rfl) ?_
        refine x_y (v := .slice a_25 ((stepO (chkB 1 ([]) ([(Opc.mk 2 0 0 1 0 0)]) ([])) ([(Opc.mk 2 0 0 1 0 0)]) ([]) (Rec.mk true 0 0 0) xs).length) c_26) (y_move h14_36) rfl ?_
        refine x_y (v := .int .i64 (((j : Nat) : Int))) (y_move h18_36) rfl ?_
        refine x_y (v := .pointer (some ⟨aB a_25, aO a_25 + j * 4, none⟩)) (y_idx (o := j * 4) rfl rfl Try.underlying69 Try.sizeOf23 (oslR (.t (.t (.t (.t .h))))) (fl_len recV_len _) (by decide) (by omega) (by omega) (by omega)) rfl ?_
        refine x_y (v := .pointer (some ⟨aB a_25, aO a_25 + j * 4, none⟩)) (y_fieldAddr (o' := aO a_25 + j * 4) rfl Try.underlying23 rfl Try.sizeOf4 (by decide) rfl) rfl ?_
        refine x_y (v := .bool (((stepO (chkB 1 ([]) ([(Opc.mk 2 0 0 1 0 0)]) ([])) ([(Opc.mk 2 0 0 1 0 0)]) ([]) (Rec.mk true 0 0 0) xs).getD j default).dead)) (y_load1 (v := .bool (((stepO (chkB 1 ([]) ([(Opc.mk 2 0 0 1 0 0)]) ([])) ([(Opc.mk 2 0 0 1 0 0)]) ([]) (Rec.mk true 0 0 0) xs).getD j default).dead)) rfl Try.isAgg4 (rd1 (k := j * 4) (oslR (.t (.t (.t (.t .h))))) (fl_get0 recV_len (stepO (chkB 1 ([]) ([(Opc.mk 2 0 0 1 0 0)]) ([])) ([(Opc.mk 2 0 0 1 0 0)]) ([]) (Rec.mk true 0 0 0) xs) j (by first | omega | (simp only [List.length_set, List.length_take, List.length_drop]; done) | (simp only [List.length_set, List.length_take, List.length_drop]; omega)) rfl))) rfl ?_
        refine x_y (v := .slice a_31 ((stepO (chkB 1 ([]) ([(Opc.mk 2 0 0 1 0 0)]) ([])) ([(Opc.mk 2 0 0 1 0 0)]) ([]) (Rec.mk true 0 0 0) ys).length) c_32) (y_move h16_36) rfl ?_
        refine x_y (v := .int .i64 (((j : Nat) : Int))) (y_move h18_36) rfl ?_
        refine x_y (v := .pointer (some ⟨aB a_31, aO a_31 + j * 4, none⟩)) (y_idx (o := j * 4) rfl rfl Try.underlying69 Try.sizeOf23 (oslR (.t .h)) (fl_len recV_len _) (by decide) (by omega) (by omega) (by omega)) rfl ?_
        refine x_y (v := .pointer (some ⟨aB a_31, aO a_31 + j * 4, none⟩)) (y_fieldAddr (o' := aO a_31 + j * 4) rfl Try.underlying23 rfl Try.sizeOf4 (by decide) rfl) rfl ?_
        refine x_y (v := .bool (((stepO (chkB 1 ([]) ([(Opc.mk 2 0 0 1 0 0)]) ([])) ([(Opc.mk 2 0 0 1 0 0)]) ([]) (Rec.mk true 0 0 0) ys).getD j default).dead)) (y_load1 (v := .bool (((stepO (chkB 1 ([]) ([(Opc.mk 2 0 0 1 0 0)]) ([])) ([(Opc.mk 2 0 0 1 0 0)]) ([]) (Rec.mk true 0 0 0) ys).getD j default).dead)) rfl Try.isAgg4 (rd1 (k := j * 4) (oslR (.t .h)) (fl_get0 recV_len (stepO (chkB 1 ([]) ([(Opc.mk 2 0 0 1 0 0)]) ([])) ([(Opc.mk 2 0 0 1 0 0)]) ([]) (Rec.mk true 0 0 0) ys) j (by first | omega | (simp only [List.length_set, List.length_take, List.length_drop]; done) | (simp only [List.length_set, List.length_take, List.length_drop]; omega)) rfl))) rfl ?_
        refine x_y (v := .bool (!((((stepO (chkB 1 ([]) ([(Opc.mk 2 0 0 1 0 0)]) ([])) ([(Opc.mk 2 0 0 1 0 0)]) ([]) (Rec.mk true 0 0 0) xs).getD j default).dead) == (((stepO (chkB 1 ([]) ([(Opc.mk 2 0 0 1 0 0)]) ([])) ([(Opc.mk 2 0 0 1 0 0)]) ([]) (Rec.mk true 0 0 0) ys).getD j default).dead)))) (y_neqB (a := ((stepO (chkB 1 ([]) ([(Opc.mk 2 0 0 1 0 0)]) ([])) ([(Opc.mk 2 0 0 1 0 0)]) ([]) (Rec.mk true 0 0 0) xs).getD j default).dead) (b := ((stepO (chkB 1 ([]) ([(Opc.mk 2 0 0 1 0 0)]) ([])) ([(Opc.mk 2 0 0 1 0 0)]) ([]) (Rec.mk true 0 0 0) ys).getD j default).dead) Try.underlying4 rfl rfl rfl) rfl ?_
        refine x_y (v := .bool (!((((stepO (chkB 1 ([]) ([(Opc.mk 2 0 0 1 0 0)]) ([])) ([(Opc.mk 2 0 0 1 0 0)]) ([]) (Rec.mk true 0 0 0) xs).getD j default).dead) == (((stepO (chkB 1 ([]) ([(Opc.mk 2 0 0 1 0 0)]) ([])) ([(Opc.mk 2 0 0 1 0 0)]) ([]) (Rec.mk true 0 0 0) ys).getD j default).dead)))) (y_move rfl) rfl ?_
        refine x_gy (y_move h14_36) rfl rfl rfl rfl (b' := !((((stepO (chkB 1 ([]) ([(Opc.mk 2 0 0 1 0 0)]) ([])) ([(Opc.mk 2 0 0 1 0 0)]) ([]) (Rec.mk true 0 0 0) xs).getD j default).dead) == (((stepO (chkB 1 ([]) ([(Opc.mk 2 0 0 1 0 0)]) ([])) ([(Opc.mk 2 0 0 1 0 0)]) ([]) (Rec.mk true 0 0 0) ys).getD j default).dead))) rfl (by rw [hsd]; simp) ?_
        refine x_gy (y_move h18_36) rfl rfl rfl rfl (b' := !((((stepO (chkB 1 ([]) ([(Opc.mk 2 0 0 1 0 0)]) ([])) ([(Opc.mk 2 0 0 1 0 0)]) ([]) (Rec.mk true 0 0 0) xs).getD j default).dead) == (((stepO (chkB 1 ([]) ([(Opc.mk 2 0 0 1 0 0)]) ([])) ([(Opc.mk 2 0 0 1 0 0)]) ([]) (Rec.mk true 0 0 0) ys).getD j default).dead))) rfl (by rw [hsd]; simp) ?_
        refine x_gy (y_idx (o := j * 4) rfl rfl Try.underlying69 Try.sizeOf23 (oslR (.t (.t (.t (.t .h))))) (fl_len recV_len _) (by decide) (by omega) (by omega) (by omega)) rfl rfl rfl rfl (b' := !((((stepO (chkB 1 ([]) ([(Opc.mk 2 0 0 1 0 0)]) ([])) ([(Opc.mk 2 0 0 1 0 0)]) ([]) (Rec.mk true 0 0 0) xs).getD j default).dead) == (((stepO (chkB 1 ([]) ([(Opc.mk 2 0 0 1 0 0)]) ([])) ([(Opc.mk 2 0 0 1 0 0)]) ([]) (Rec.mk true 0 0 0) ys).getD j default).dead))) rfl (by rw [hsd]; simp) ?_
        refine x_gy (y_fieldAddr (o' := aO a_25 + j * 4 + 1) rfl Try.underlying23 rfl Try.sizeOf2 (by decide) rfl) rfl rfl rfl rfl (b' := !((((stepO (chkB 1 ([]) ([(Opc.mk 2 0 0 1 0 0)]) ([])) ([(Opc.mk 2 0 0 1 0 0)]) ([]) (Rec.mk true 0 0 0) xs).getD j default).dead) == (((stepO (chkB 1 ([]) ([(Opc.mk 2 0 0 1 0 0)]) ([])) ([(Opc.mk 2 0 0 1 0 0)]) ([]) (Rec.mk true 0 0 0) ys).getD j default).dead))) rfl (by rw [hsd]; simp) ?_
        refine x_gy (y_load1 (v := .int .i64 ((((stepO (chkB 1 ([]) ([(Opc.mk 2 0 0 1 0 0)]) ([])) ([(Opc.mk 2 0 0 1 0 0)]) ([]) (Rec.mk true 0 0 0) xs).getD j default).key).toInt)) rfl Try.isAgg2 (rd1 (k := j * 4 + 1) (oslR (.t (.t (.t (.t .h))))) (fl_get1 (f := 1) recV_len (stepO (chkB 1 ([]) ([(Opc.mk 2 0 0 1 0 0)]) ([])) ([(Opc.mk 2 0 0 1 0 0)]) ([]) (Rec.mk true 0 0 0) xs) j (by first | omega | (simp only [List.length_set, List.length_take, List.length_drop]; done) | (simp only [List.length_set, List.length_take, List.length_drop]; omega)) rfl))) rfl rfl rfl rfl (b' := !((((stepO (chkB 1 ([]) ([(Opc.mk 2 0 0 1 0 0)]) ([])) ([(Opc.mk 2 0 0 1 0 0)]) ([]) (Rec.mk true 0 0 0) xs).getD j default).dead) == (((stepO (chkB 1 ([]) ([(Opc.mk 2 0 0 1 0 0)]) ([])) ([(Opc.mk 2 0 0 1 0 0)]) ([]) (Rec.mk true 0 0 0) ys).getD j default).dead))) rfl (by rw [hsd]; simp) ?_
        refine x_gy (y_move h16_36) rfl rfl rfl rfl (b' := !((((stepO (chkB 1 ([]) ([(Opc.mk 2 0 0 1 0 0)]) ([])) ([(Opc.mk 2 0 0 1 0 0)]) ([]) (Rec.mk true 0 0 0) xs).getD j default).dead) == (((stepO (chkB 1 ([]) ([(Opc.mk 2 0 0 1 0 0)]) ([])) ([(Opc.mk 2 0 0 1 0 0)]) ([]) (Rec.mk true 0 0 0) ys).getD j default).dead))) rfl (by rw [hsd]; simp) ?_
        refine x_gy (y_move h18_36) rfl rfl rfl rfl (b' := !((((stepO (chkB 1 ([]) ([(Opc.mk 2 0 0 1 0 0)]) ([])) ([(Opc.mk 2 0 0 1 0 0)]) ([]) (Rec.mk true 0 0 0) xs).getD j default).dead) == (((stepO (chkB 1 ([]) ([(Opc.mk 2 0 0 1 0 0)]) ([])) ([(Opc.mk 2 0 0 1 0 0)]) ([]) (Rec.mk true 0 0 0) ys).getD j default).dead))) rfl (by rw [hsd]; simp) ?_
        refine x_gy (y_idx (o := j * 4) rfl rfl Try.underlying69 Try.sizeOf23 (oslR (.t .h)) (fl_len recV_len _) (by decide) (by omega) (by omega) (by omega)) rfl rfl rfl rfl (b' := !((((stepO (chkB 1 ([]) ([(Opc.mk 2 0 0 1 0 0)]) ([])) ([(Opc.mk 2 0 0 1 0 0)]) ([]) (Rec.mk true 0 0 0) xs).getD j default).dead) == (((stepO (chkB 1 ([]) ([(Opc.mk 2 0 0 1 0 0)]) ([])) ([(Opc.mk 2 0 0 1 0 0)]) ([]) (Rec.mk true 0 0 0) ys).getD j default).dead))) rfl (by rw [hsd]; simp) ?_
        refine x_gy (y_fieldAddr (o' := aO a_31 + j * 4 + 1) rfl Try.underlying23 rfl Try.sizeOf2 (by decide) rfl) rfl rfl rfl rfl (b' := !((((stepO (chkB 1 ([]) ([(Opc.mk 2 0 0 1 0 0)]) ([])) ([(Opc.mk 2 0 0 1 0 0)]) ([]) (Rec.mk true 0 0 0) xs).getD j default).dead) == (((stepO (chkB 1 ([]) ([(Opc.mk 2 0 0 1 0 0)]) ([])) ([(Opc.mk 2 0 0 1 0 0)]) ([]) (Rec.mk true 0 0 0) ys).getD j default).dead))) rfl (by rw [hsd]; simp) ?_
        refine x_gy (y_load1 (v := .int .i64 ((((stepO (chkB 1 ([]) ([(Opc.mk 2 0 0 1 0 0)]) ([])) ([(Opc.mk 2 0 0 1 0 0)]) ([]) (Rec.mk true 0 0 0) ys).getD j default).key).toInt)) rfl Try.isAgg2 (rd1 (k := j * 4 + 1) (oslR (.t .h)) (fl_get1 (f := 1) recV_len (stepO (chkB 1 ([]) ([(Opc.mk 2 0 0 1 0 0)]) ([])) ([(Opc.mk 2 0 0 1 0 0)]) ([]) (Rec.mk true 0 0 0) ys) j (by first | omega | (simp only [List.length_set, List.length_take, List.length_drop]; done) | (simp only [List.length_set, List.length_take, List.length_drop]; omega)) rfl))) rfl rfl rfl rfl (b' := !((((stepO (chkB 1 ([]) ([(Opc.mk 2 0 0 1 0 0)]) ([])) ([(Opc.mk 2 0 0 1 0 0)]) ([]) (Rec.mk true 0 0 0) xs).getD j default).dead) == (((stepO (chkB 1 ([]) ([(Opc.mk 2 0 0 1 0 0)]) ([])) ([(Opc.mk 2 0 0 1 0 0)]) ([]) (Rec.mk true 0 0 0) ys).getD j default).dead))) rfl (by rw [hsd]; simp) ?_
        refine x_gy (y_neq (a := (((stepO (chkB 1 ([]) ([(Opc.mk 2 0 0 1 0 0)]) ([])) ([(Opc.mk 2 0 0 1 0 0)]) ([]) (Rec.mk true 0 0 0) xs).getD j default).key).toInt) (b := (((stepO (chkB 1 ([]) ([(Opc.mk 2 0 0 1 0 0)]) ([])) ([(Opc.mk 2 0 0 1 0 0)]) ([]) (Rec.mk true 0 0 0) ys).getD j default).key).toInt) (c := decide ((((stepO (chkB 1 ([]) ([(Opc.mk 2 0 0 1 0 0)]) ([])) ([(Opc.mk 2 0 0 1 0 0)]) ([]) (Rec.mk true 0 0 0) xs).getD j default).key) ≠ (((stepO (chkB 1 ([]) ([(Opc.mk 2 0 0 1 0 0)]) ([])) ([(Opc.mk 2 0 0 1 0 0)]) ([]) (Rec.mk true 0 0 0) ys).getD j default).key))) rfl rfl (i_neq _ _)) rfl rfl rfl rfl (b' := !((((stepO (chkB 1 ([]) ([(Opc.mk 2 0 0 1 0 0)]) ([])) ([(Opc.mk 2 0 0 1 0 0)]) ([]) (Rec.mk true 0 0 0) xs).getD j default).dead) == (((stepO (chkB 1 ([]) ([(Opc.mk 2 0 0 1 0 0)]) ([])) ([(Opc.mk 2 0 0 1 0 0)]) ([]) (Rec.mk true 0 0 0) ys).getD j default).dead))) rfl (by rw [hsd]; simp) ?_
        refine x_y (v := .bool (decide ((((stepO (chkB 1 ([]) ([(Opc.mk 2 0 0 1 0 0)]) ([])) ([(Opc.mk 2 0 0 1 0 0)]) ([]) (Rec.mk true 0 0 0) xs).getD j default).key) ≠ (((stepO (chkB 1 ([]) ([(Opc.mk 2 0 0 1 0 0)]) ([])) ([(Opc.mk 2 0 0 1 0 0)]) ([]) (Rec.mk true 0 0 0) ys).getD j default).key)))) (y_pickF (b := !((((stepO (chkB 1 ([]) ([(Opc.mk 2 0 0 1 0 0)]) ([])) ([(Opc.mk 2 0 0 1 0 0)]) ([]) (Rec.mk true 0 0 0) xs).getD j default).dead) == (((stepO (chkB 1 ([]) ([(Opc.mk 2 0 0 1 0 0)]) ([])) ([(Opc.mk 2 0 0 1 0 0)]) ([]) (Rec.mk true 0 0 0) ys).getD j default).dead))) (v := .bool (decide ((((stepO (chkB 1 ([]) ([(Opc.mk 2 0 0 1 0 0)]) ([])) ([(Opc.mk 2 0 0 1 0 0)]) ([]) (Rec.mk true 0 0 0) xs).getD j default).key) ≠ (((stepO (chkB 1 ([]) ([(Opc.mk 2 0 0 1 0 0)]) ([])) ([(Opc.mk 2 0 0 1 0 0)]) ([]) (Rec.mk true 0 0 0) ys).getD j default).key)))) rfl (by rw [hsd]; simp) rfl) rfl ?_
        refine x_y (v := .bool (decide ((((stepO (chkB 1 ([]) ([(Opc.mk 2 0 0 1 0 0)]) ([])) ([(Opc.mk 2 0 0 1 0 0)]) ([]) (Rec.mk true 0 0 0) xs).getD j default).key) ≠ (((stepO (chkB 1 ([]) ([(Opc.mk 2 0 0 1 0 0)]) ([])) ([(Opc.mk 2 0 0 1 0 0)]) ([]) (Rec.mk true 0 0 0) ys).getD j default).key)))) (y_move rfl) rfl ?_
        refine x_gy (y_move h14_36) rfl rfl rfl rfl (b' := decide ((((stepO (chkB 1 ([]) ([(Opc.mk 2 0 0 1 0 0)]) ([])) ([(Opc.mk 2 0 0 1 0 0)]) ([]) (Rec.mk true 0 0 0) xs).getD j default).key) ≠ (((stepO (chkB 1 ([]) ([(Opc.mk 2 0 0 1 0 0)]) ([])) ([(Opc.mk 2 0 0 1 0 0)]) ([]) (Rec.mk true 0 0 0) ys).getD j default).key))) rfl (decide_eq_false (fun h => h hsk)) ?_
        refine x_gy (y_move h18_36) rfl rfl rfl rfl (b' := decide ((((stepO (chkB 1 ([]) ([(Opc.mk 2 0 0 1 0 0)]) ([])) ([(Opc.mk 2 0 0 1 0 0)]) ([]) (Rec.mk true 0 0 0) xs).getD j default).key) ≠ (((stepO (chkB 1 ([]) ([(Opc.mk 2 0 0 1 0 0)]) ([])) ([(Opc.mk 2 0 0 1 0 0)]) ([]) (Rec.mk true 0 0 0) ys).getD j default).key))) rfl (decide_eq_false (fun h => h hsk)) ?_
        refine x_gy (y_idx (o := j * 4) rfl rfl Try.underlying69 Try.sizeOf23 (oslR (.t (.t (.t (.t .h))))) (fl_len recV_len _) (by decide) (by omega) (by omega) (by omega)) rfl rfl rfl rfl (b' := decide ((((stepO (chkB 1 ([]) ([(Opc.mk 2 0 0 1 0 0)]) ([])) ([(Opc.mk 2 0 0 1 0 0)]) ([]) (Rec.mk true 0 0 0) xs).getD j default).key) ≠ (((stepO (chkB 1 ([]) ([(Opc.mk 2 0 0 1 0 0)]) ([])) ([(Opc.mk 2 0 0 1 0 0)]) ([]) (Rec.mk true 0 0 0) ys).getD j default).key))) rfl (decide_eq_false (fun h => h hsk)) ?_
        refine x_gy (y_fieldAddr (o' := aO a_25 + j * 4 + 3) rfl Try.underlying23 rfl Try.sizeOf2 (by decide) rfl) rfl rfl rfl rfl (b' := decide ((((stepO (chkB 1 ([]) ([(Opc.mk 2 0 0 1 0 0)]) ([])) ([(Opc.mk 2 0 0 1 0 0)]) ([]) (Rec.mk true 0 0 0) xs).getD j default).key) ≠ (((stepO (chkB 1 ([]) ([(Opc.mk 2 0 0 1 0 0)]) ([])) ([(Opc.mk 2 0 0 1 0 0)]) ([]) (Rec.mk true 0 0 0) ys).getD j default).key))) rfl (decide_eq_false (fun h => h hsk)) ?_
        refine x_gy (y_load1 (v := .int .i64 ((((stepO (chkB 1 ([]) ([(Opc.mk 2 0 0 1 0 0)]) ([])) ([(Opc.mk 2 0 0 1 0 0)]) ([]) (Rec.mk true 0 0 0) xs).getD j default).seq).toInt)) rfl Try.isAgg2 (rd1 (k := j * 4 + 3) (oslR (.t (.t (.t (.t .h))))) (fl_get1 (f := 3) recV_len (stepO (chkB 1 ([]) ([(Opc.mk 2 0 0 1 0 0)]) ([])) ([(Opc.mk 2 0 0 1 0 0)]) ([]) (Rec.mk true 0 0 0) xs) j (by first | omega | (simp only [List.length_set, List.length_take, List.length_drop]; done) | (simp only [List.length_set, List.length_take, List.length_drop]; omega)) rfl))) rfl rfl rfl rfl (b' := decide ((((stepO (chkB 1 ([]) ([(Opc.mk 2 0 0 1 0 0)]) ([])) ([(Opc.mk 2 0 0 1 0 0)]) ([]) (Rec.mk true 0 0 0) xs).getD j default).key) ≠ (((stepO (chkB 1 ([]) ([(Opc.mk 2 0 0 1 0 0)]) ([])) ([(Opc.mk 2 0 0 1 0 0)]) ([]) (Rec.mk true 0 0 0) ys).getD j default).key))) rfl (decide_eq_false (fun h => h hsk)) ?_
        refine x_gy (y_neq (a := (((stepO (chkB 1 ([]) ([(Opc.mk 2 0 0 1 0 0)]) ([])) ([(Opc.mk 2 0 0 1 0 0)]) ([]) (Rec.mk true 0 0 0) xs).getD j default).seq).toInt) (b := 0) (c := decide ((((stepO (chkB 1 ([]) ([(Opc.mk 2 0 0 1 0 0)]) ([])) ([(Opc.mk 2 0 0 1 0 0)]) ([]) (Rec.mk true 0 0 0) xs).getD j default).seq) ≠ 0)) rfl rfl (i_neqL _ 0 (by decide))) rfl rfl rfl rfl (b' := decide ((((stepO (chkB 1 ([]) ([(Opc.mk 2 0 0 1 0 0)]) ([])) ([(Opc.mk 2 0 0 1 0 0)]) ([]) (Rec.mk true 0 0 0) xs).getD j default).key) ≠ (((stepO (chkB 1 ([]) ([(Opc.mk 2 0 0 1 0 0)]) ([])) ([(Opc.mk 2 0 0 1 0 0)]) ([]) (Rec.mk true 0 0 0) ys).getD j default).key))) rfl (decide_eq_false (fun h => h hsk)) ?_
        refine x_y (v := .bool (decide ((((stepO (chkB 1 ([]) ([(Opc.mk 2 0 0 1 0 0)]) ([])) ([(Opc.mk 2 0 0 1 0 0)]) ([]) (Rec.mk true 0 0 0) xs).getD j default).seq) ≠ 0))) (y_pickF (b := decide ((((stepO (chkB 1 ([]) ([(Opc.mk 2 0 0 1 0 0)]) ([])) ([(Opc.mk 2 0 0 1 0 0)]) ([]) (Rec.mk true 0 0 0) xs).getD j default).key) ≠ (((stepO (chkB 1 ([]) ([(Opc.mk 2 0 0 1 0 0)]) ([])) ([(Opc.mk 2 0 0 1 0 0)]) ([]) (Rec.mk true 0 0 0) ys).getD j default).key))) (v := .bool (decide ((((stepO (chkB 1 ([]) ([(Opc.mk 2 0 0 1 0 0)]) ([])) ([(Opc.mk 2 0 0 1 0 0)]) ([]) (Rec.mk true 0 0 0) xs).getD j default).seq) ≠ 0))) rfl (decide_eq_false (fun h => h hsk)) rfl) rfl ?_
        refine x_y (v := .bool (decide ((((stepO (chkB 1 ([]) ([(Opc.mk 2 0 0 1 0 0)]) ([])) ([(Opc.mk 2 0 0 1 0 0)]) ([]) (Rec.mk true 0 0 0) xs).getD j default).seq) ≠ 0))) (y_move rfl) rfl ?_
        refine x_gy (y_move h16_36) rfl rfl rfl rfl (b' := decide ((((stepO (chkB 1 ([]) ([(Opc.mk 2 0 0 1 0 0)]) ([])) ([(Opc.mk 2 0 0 1 0 0)]) ([]) (Rec.mk true 0 0 0) xs).getD j default).seq) ≠ 0)) rfl (decide_eq_false (fun h => h hsg.2)) ?_
        refine x_gy (y_move h18_36) rfl rfl rfl rfl (b' := decide ((((stepO (chkB 1 ([]) ([(Opc.mk 2 0 0 1 0 0)]) ([])) ([(Opc.mk 2 0 0 1 0 0)]) ([]) (Rec.mk true 0 0 0) xs).getD j default).seq) ≠ 0)) rfl (decide_eq_false (fun h => h hsg.2)) ?_
        refine x_gy (y_idx (o := j * 4) rfl rfl Try.underlying69 Try.sizeOf23 (oslR (.t .h)) (fl_len recV_len _) (by decide) (by omega) (by omega) (by omega)) rfl rfl rfl rfl (b' := decide ((((stepO (chkB 1 ([]) ([(Opc.mk 2 0 0 1 0 0)]) ([])) ([(Opc.mk 2 0 0 1 0 0)]) ([]) (Rec.mk true 0 0 0) xs).getD j default).seq) ≠ 0)) rfl (decide_eq_false (fun h => h hsg.2)) ?_
        refine x_gy (y_fieldAddr (o' := aO a_31 + j * 4 + 3) rfl Try.underlying23 rfl Try.sizeOf2 (by decide) rfl) rfl rfl rfl rfl (b' := decide ((((stepO (chkB 1 ([]) ([(Opc.mk 2 0 0 1 0 0)]) ([])) ([(Opc.mk 2 0 0 1 0 0)]) ([]) (Rec.mk true 0 0 0) xs).getD j default).seq) ≠ 0)) rfl (decide_eq_false (fun h => h hsg.2)) ?_
        refine x_gy (y_load1 (v := .int .i64 ((((stepO (chkB 1 ([]) ([(Opc.mk 2 0 0 1 0 0)]) ([])) ([(Opc.mk 2 0 0 1 0 0)]) ([]) (Rec.mk true 0 0 0) ys).getD j default).seq).toInt)) rfl Try.isAgg2 (rd1 (k := j * 4 + 3) (oslR (.t .h)) (fl_get1 (f := 3) recV_len (stepO (chkB 1 ([]) ([(Opc.mk 2 0 0 1 0 0)]) ([])) ([(Opc.mk 2 0 0 1 0 0)]) ([]) (Rec.mk true 0 0 0) ys) j (by first | omega | (simp only [List.length_set, List.length_take, List.length_drop]; done) | (simp only [List.length_set, List.length_take, List.length_drop]; omega)) rfl))) rfl rfl rfl rfl (b' := decide ((((stepO (chkB 1 ([]) ([(Opc.mk 2 0 0 1 0 0)]) ([])) ([(Opc.mk 2 0 0 1 0 0)]) ([]) (Rec.mk true 0 0 0) xs).getD j default).seq) ≠ 0)) rfl (decide_eq_false (fun h => h hsg.2)) ?_
        refine x_gy (y_neq (a := (((stepO (chkB 1 ([]) ([(Opc.mk 2 0 0 1 0 0)]) ([])) ([(Opc.mk 2 0 0 1 0 0)]) ([]) (Rec.mk true 0 0 0) ys).getD j default).seq).toInt) (b := 0) (c := decide ((((stepO (chkB 1 ([]) ([(Opc.mk 2 0 0 1 0 0)]) ([])) ([(Opc.mk 2 0 0 1 0 0)]) ([]) (Rec.mk true 0 0 0) ys).getD j default).seq) ≠ 0)) rfl rfl (i_neqL _ 0 (by decide))) rfl rfl rfl rfl (b' := decide ((((stepO (chkB 1 ([]) ([(Opc.mk 2 0 0 1 0 0)]) ([])) ([(Opc.mk 2 0 0 1 0 0)]) ([]) (Rec.mk true 0 0 0) xs).getD j default).seq) ≠ 0)) rfl (decide_eq_false (fun h => h hsg.2)) ?_
        refine x_y (v := .bool (decide ((((stepO (chkB 1 ([]) ([(Opc.mk 2 0 0 1 0 0)]) ([])) ([(Opc.mk 2 0 0 1 0 0)]) ([]) (Rec.mk true 0 0 0) ys).getD j default).seq) ≠ 0))) (y_pickF (b := decide ((((stepO (chkB 1 ([]) ([(Opc.mk 2 0 0 1 0 0)]) ([])) ([(Opc.mk 2 0 0 1 0 0)]) ([]) (Rec.mk true 0 0 0) xs).getD j default).seq) ≠ 0)) (v := .bool (decide ((((stepO (chkB 1 ([]) ([(Opc.mk 2 0 0 1 0 0)]) ([])) ([(Opc.mk 2 0 0 1 0 0)]) ([]) (Rec.mk true 0 0 0) ys).getD j default).seq) ≠ 0))) rfl (decide_eq_false (fun h => h hsg.2)) rfl) rfl ?_
        refine x_nil ?_
        refine thenS_n ?_
        refine wpS_cond_F (t := decide ((((stepO (chkB 1 ([]) ([(Opc.mk 2 0 0 1 0 0)]) ([])) ([(Opc.mk 2 0 0 1 0 0)]) ([]) (Rec.mk true 0 0 0) ys).getD j default).seq) ≠ 0)) rfl (decide_eq_false (fun h => h (hsq.symm.trans hsg.2))) ?_
        refine wpS_skip ?_
        refine blockS_n ?_
        refine thenS_n ?_
        refine wpS_region ?_
        refine s_y (v := .int .i64 (((j : Nat) : Int))) (y_move h18_36) rfl ?_
        refine s_y (v := .int .i64 ((((j + 1) : Nat) : Int))) (y_add (a := ((j : Nat) : Int)) (b := 1) (c := (((j + 1) : Nat) : Int)) rfl rfl (wI (by omega) (by omega) (by omega))) rfl ?_
        refine s_y (v := .int .i64 ((((j + 1) : Nat) : Int))) (y_assign rfl) rfl ?_
        refine wpL_nil ?_
        refine thenS_n ?_
        exact ⟨_, by omega, ⟨(j + 1), rfl, by omega, rfl, h14_36, h16_36, rfl, .p .h (.p .h (.p .h (.p .h (.p .h (.p .h (.p .h (.p .h .nil)))))))⟩⟩
      · -- decide (j < ((stepO (chkB 1 ([]) ([(Opc.mk 2 0 0 1 0 0)]) ([])) ([(Opc.mk 2 0 0 1 0 0)]) ([]) (Rec.mk true 0 0 0) xs).length)) false
        have p37 := of_decide_eq_false b37
        refine wpS_exit ?_
        refine thenS_x ?_
        refine thenS_x ?_
        refine blockS_h ?_
        refine thenS_n ?_
        refine wpS_seq ?_
        refine wpS_region ?_
        refine s_y (v := .bool true) (y_assign rfl) rfl ?_
        refine wpL_nil ?_
        refine thenS_n ?_
        refine wpS_ret ?_
        refine fin1 (v := .bool true) (.inr rfl) (.nil) Try.results27 rfl ?_
        exact fun w' hs => ⟨rfl, hs⟩

end Go.Proofs.Ytldkjjnjdjfipaa
