/- A run's tasks gathered, walked. -/
import Derived.Test.YtldkjjnjdjfipaaWTsk1
import Derived.Test.YtldkjjnjdjfipaaWHlpI
import Derived.Test.YtldkjjnjdjfipaaWSeq
import Derived.Test.YtldkjjnjdjfipaaGen
namespace Go.Proofs.Ytldkjjnjdjfipaa
open Go Go.RowKit
set_option linter.unusedVariables false
set_option linter.unusedSimpArgs false
set_option maxRecDepth 10000
set_option maxHeartbeats 1000000

theorem equalT (w : World) (a b : Task) : (Op.equal 120 (.agg #[.int .i64 a.t0, .int .i64 a.t1, .int .i64 a.t2, .int .i64 a.t3, .bool a.t4]) (.agg #[.int .i64 b.t0, .int .i64 b.t1, .int .i64 b.t2, .int .i64 b.t3, .bool b.t4])).run Try.prog w = .ok (decide (a = b)) w := by
  have e : decide (a = b) = (decide (a.t0 = b.t0) && (decide (a.t1 = b.t1) && (decide (a.t2 = b.t2) && (decide (a.t3 = b.t3) && (a.t4 == b.t4))))) := by
    rw [Bool.eq_iff_iff]
    cases a; cases b
    simp
  rw [e]
  simp [go_sem, Op.equal, Op.maxDepth]
  by_cases h0 : a.t0 = b.t0 <;> by_cases h1 : a.t1 = b.t1 <;> by_cases h2 : a.t2 = b.t2 <;> by_cases h3 : a.t3 = b.t3 <;> by_cases h4 : a.t4 = b.t4 <;> simp [h0, h1, h2, h3, h4]

theorem plain1T_c (a b : Task) (w : World) : Pure Try.prog 185 #[.agg #[.int .i64 (a.t0), .int .i64 (a.t1), .int .i64 (a.t2), .int .i64 (a.t3), .bool (a.t4)], .agg #[.int .i64 (b.t0), .int .i64 (b.t1), .int .i64 (b.t2), .int .i64 (b.t3), .bool (b.t4)]] w (.bool ((decide (a = b)))) := by
  refine calls_S (n := 8) (σ0 := (upd (upd fr0 0 (.agg #[.int .i64 (a.t0), .int .i64 (a.t1), .int .i64 (a.t2), .int .i64 (a.t3), .bool (a.t4)])) 1 (.agg #[.int .i64 (b.t0), .int .i64 (b.t1), .int .i64 (b.t2), .int .i64 (b.t3), .bool (b.t4)]))) (D := []) (A := []) Try.func185 rfl Try.ntmps185 rfl (a2_fr _ _) (SH.start w) ?_
  refine wpS_seq ?_
  refine wpS_region ?_
  refine s_e rfl ?_
  refine e_box (v := .agg #[.int .i64 (a.t0), .int .i64 (a.t1), .int .i64 (a.t2), .int .i64 (a.t3), .bool (a.t4)]) (l := [.int .i64 (a.t0), .int .i64 (a.t1), .int .i64 (a.t2), .int .i64 (a.t3), .bool (a.t4)]) rfl rfl ?_
  intro b_1
  refine s_e rfl ?_
  refine e_box (v := .agg #[.int .i64 (b.t0), .int .i64 (b.t1), .int .i64 (b.t2), .int .i64 (b.t3), .bool (b.t4)]) (l := [.int .i64 (b.t0), .int .i64 (b.t1), .int .i64 (b.t2), .int .i64 (b.t3), .bool (b.t4)]) rfl rfl ?_
  intro b_2
  refine s_y (v := .bool false) (y_assign rfl) rfl ?_
  refine wpL_nil ?_
  refine thenS_n ?_
  refine wpS_seq ?_
  refine wpS_region ?_
  refine s_y (v := .agg #[.int .i64 (a.t0), .int .i64 (a.t1), .int .i64 (a.t2), .int .i64 (a.t3), .bool (a.t4)]) (y_loadN (vs := [.int .i64 (a.t0), .int .i64 (a.t1), .int .i64 (a.t2), .int .i64 (a.t3), .bool (a.t4)]) rfl Try.isAgg120 Try.sizeOf120 (ownN (.t .h) rfl)) rfl ?_
  refine s_y (v := .agg #[.int .i64 (b.t0), .int .i64 (b.t1), .int .i64 (b.t2), .int .i64 (b.t3), .bool (b.t4)]) (y_loadN (vs := [.int .i64 (b.t0), .int .i64 (b.t1), .int .i64 (b.t2), .int .i64 (b.t3), .bool (b.t4)]) rfl Try.isAgg120 Try.sizeOf120 (ownN .h rfl)) rfl ?_
  refine s_y (v := .bool (decide (a = b))) (y_eqlS (a := #[.int .i64 (a.t0), .int .i64 (a.t1), .int .i64 (a.t2), .int .i64 (a.t3), .bool (a.t4)]) (b := #[.int .i64 (b.t0), .int .i64 (b.t1), .int .i64 (b.t2), .int .i64 (b.t3), .bool (b.t4)]) (c := decide (a = b)) Try.eqGuardType120 (fun w => equalT w a b) rfl rfl) rfl ?_
  refine s_y (v := .bool (decide (a = b))) (y_assign rfl) rfl ?_
  refine wpL_nil ?_
  refine thenS_n ?_
  refine wpS_ret ?_
  refine fin1 (M := []) (v := .bool (decide (a = b))) (.inr rfl) (.nil) Try.results185 rfl ?_
  exact fun w' hs => ⟨rfl, hs⟩

theorem hsameT_c (ax ay : Option Addr) (nx ny cx cy : Nat) (x y : List Task) (w : World) (hnx : x.length = nx) (hrx : Rds w ax (x.flatMap taskV)) (hbx : nx ≤ 1000000) (hny : y.length = ny) (hry : Rds w ay (y.flatMap taskV)) (hby : ny ≤ 1000000) : Pure Try.prog 184 #[.slice ax nx cx, .slice ay ny cy, .func (.func 185) #[] #[]] w (.bool (decide (x = y))) := by
  refine calls_S (n := 30) (σ0 := (upd (upd (upd fr0 0 (.slice ax nx cx)) 1 (.slice ay ny cy)) 2 (.func (.func 185) #[] #[]))) (D := []) (A := []) Try.func184 rfl Try.ntmps184 rfl (a3_fr _ _ _) (SH.start w) ?_
  refine wpS_seq ?_
  refine wpS_region ?_
  refine s_y (v := .bool false) (y_assign rfl) rfl ?_
  refine wpL_nil ?_
  refine thenS_n ?_
  refine wpS_seq ?_
  refine wpS_seq ?_
  refine wpS_region ?_
  refine s_y (v := .slice ax nx cx) (y_move rfl) rfl ?_
  refine s_y (v := .int .i64 (((nx : Nat) : Int))) (y_len (ty' := 0) (at_ := #[]) rfl Try.underlying115) rfl ?_
  refine s_y (v := .slice ay ny cy) (y_move rfl) rfl ?_
  refine s_y (v := .int .i64 (((ny : Nat) : Int))) (y_len (ty' := 0) (at_ := #[]) rfl Try.underlying115) rfl ?_
  refine s_y (v := .bool (decide (nx ≠ ny))) (y_neq (a := ((nx : Nat) : Int)) (b := ((ny : Nat) : Int)) (c := decide (nx ≠ ny)) rfl rfl (decide_eq_decide.2 (by omega))) rfl ?_
  refine wpL_nil ?_
  refine thenS_n ?_
  refine wpS_cond (t := decide (nx ≠ ny)) rfl (fun b1 => ?_) (fun b1 => ?_)
  · -- decide (nx ≠ ny) true
    have p1 := of_decide_eq_true b1
    refine wpS_seq ?_
    refine wpS_region ?_
    refine s_y (v := .bool false) (y_assign rfl) rfl ?_
    refine wpL_nil ?_
    refine thenS_n ?_
    refine wpS_ret ?_
    refine thenS_r ?_
    refine fin1 (M := []) (v := .bool false) (.inr rfl) (.nil) Try.results184 rfl ?_
    exact fun w' hs => ⟨congrArg (fun b => Ending.returned (Value.bool b)) (by exact (decide_eq_false fun h => by subst h; omega).symm), hs⟩
  · -- decide (nx ≠ ny) false
    have p1 := of_decide_eq_false b1
    refine wpS_skip ?_
    refine thenS_n ?_
    refine wpS_seq ?_
    refine wpS_seq ?_
    refine wpS_region ?_
    refine s_y (v := .int .i64 0) (y_assign rfl) rfl ?_
    refine wpL_nil ?_
    refine thenS_n ?_
    refine wpS_block ?_
    refine wpS_loop (fun mez ds σ L => ∃ i : Nat, mez = nx - i ∧ (i ≤ nx) ∧ (x.take i = y.take i) ∧ ds = [] ∧ σ 0 = .slice ax nx cx ∧ σ 1 = .slice ay ny cy ∧ σ 2 = .func (.func 185) #[] #[] ∧ σ 7 = .int .i64 (((i : Nat) : Int)) ∧ Ent L []) (m0 := nx - 0) ⟨0, rfl, by omega, (by simp), rfl, rfl, rfl, rfl, rfl, .nil⟩ ?_
    rintro mez ds σ L ⟨i, hm_2, hf0_2, hf1_2, rfl, h0_2, h1_2, h2_2, h7_2, hE_2⟩
    refine wpS_ent hE_2 ?_; clear hE_2
    refine wpS_seq ?_
    refine wpS_seq ?_
    refine wpS_region ?_
    refine s_y (v := .int .i64 (((i : Nat) : Int))) (y_move h7_2) rfl ?_
    refine s_y (v := .slice ax nx cx) (y_move h0_2) rfl ?_
    refine s_y (v := .int .i64 (((nx : Nat) : Int))) (y_len (ty' := 0) (at_ := #[]) rfl Try.underlying115) rfl ?_
    refine s_y (v := .bool (decide (i < nx))) (y_lss (a := ((i : Nat) : Int)) (b := ((nx : Nat) : Int)) (c := decide (i < nx)) rfl rfl (decide_eq_decide.2 (by omega))) rfl ?_
    refine wpL_nil ?_
    refine thenS_n ?_
    refine wpS_cond (t := decide (i < nx)) rfl (fun b3 => ?_) (fun b3 => ?_)
    · -- decide (i < nx) true
      have p3 := of_decide_eq_true b3
      refine wpS_skip ?_
      refine thenS_n ?_
      refine wpS_seq ?_
      refine wpS_block ?_
      refine wpS_seq ?_
      refine wpS_lex (by kernel_rfl) (by kernel_rfl) ?_
      refine x_y (v := .func (.func 185) #[] #[]) (y_move h2_2) rfl ?_
      refine x_y (v := .slice ax nx cx) (y_move h0_2) rfl ?_
      refine x_y (v := .int .i64 (((i : Nat) : Int))) (y_move h7_2) rfl ?_
      refine x_y (v := .pointer (some ⟨aB ax, aO ax + i * 5, none⟩)) (y_idx (o := i * 5) rfl rfl Try.underlying115 Try.sizeOf120 (oldR hrx) ((fl_len taskV_len _).trans (by first | omega | (simp only [List.length_set, List.length_take, List.length_drop]; done) | (simp only [List.length_set, List.length_take, List.length_drop]; omega))) (by decide) (by omega) (by omega) (by omega)) rfl ?_
      refine x_y (v := .agg #[.int .i64 ((x.getD i default).t0), .int .i64 ((x.getD i default).t1), .int .i64 ((x.getD i default).t2), .int .i64 ((x.getD i default).t3), .bool ((x.getD i default).t4)]) (y_loadN (vs := taskV (x.getD i default)) rfl Try.isAgg120 Try.sizeOf120 (rdN (oldR hrx) (fl_getN taskV_len x i (by first | omega | (simp only [List.length_set, List.length_take, List.length_drop]; done) | (simp only [List.length_set, List.length_take, List.length_drop]; omega))))) rfl ?_
      refine x_y (v := .slice ay ny cy) (y_move h1_2) rfl ?_
      refine x_y (v := .int .i64 (((i : Nat) : Int))) (y_move h7_2) rfl ?_
      refine x_y (v := .pointer (some ⟨aB ay, aO ay + i * 5, none⟩)) (y_idx (o := i * 5) rfl rfl Try.underlying115 Try.sizeOf120 (oldR hry) ((fl_len taskV_len _).trans (by first | omega | (simp only [List.length_set, List.length_take, List.length_drop]; done) | (simp only [List.length_set, List.length_take, List.length_drop]; omega))) (by decide) (by omega) (by omega) (by omega)) rfl ?_
      refine x_y (v := .agg #[.int .i64 ((y.getD i default).t0), .int .i64 ((y.getD i default).t1), .int .i64 ((y.getD i default).t2), .int .i64 ((y.getD i default).t3), .bool ((y.getD i default).t4)]) (y_loadN (vs := taskV (y.getD i default)) rfl Try.isAgg120 Try.sizeOf120 (rdN (oldR hry) (fl_getN taskV_len y i (by first | omega | (simp only [List.length_set, List.length_take, List.length_drop]; done) | (simp only [List.length_set, List.length_take, List.length_drop]; omega))))) rfl ?_
      refine x_y (v := .bool (decide ((x.getD i default) = (y.getD i default)))) (y_callV (cap := #[]) (args := #[.agg #[.int .i64 ((x.getD i default).t0), .int .i64 ((x.getD i default).t1), .int .i64 ((x.getD i default).t2), .int .i64 ((x.getD i default).t3), .bool ((x.getD i default).t4)], .agg #[.int .i64 ((y.getD i default).t0), .int .i64 ((y.getD i default).t1), .int .i64 ((y.getD i default).t2), .int .i64 ((y.getD i default).t3), .bool ((y.getD i default).t4)]]) (args' := #[.agg #[.int .i64 ((x.getD i default).t0), .int .i64 ((x.getD i default).t1), .int .i64 ((x.getD i default).t2), .int .i64 ((x.getD i default).t3), .bool ((x.getD i default).t4)], .agg #[.int .i64 ((y.getD i default).t0), .int .i64 ((y.getD i default).t1), .int .i64 ((y.getD i default).t2), .int .i64 ((y.getD i default).t3), .bool ((y.getD i default).t4)]]) (v := .bool (decide ((x.getD i default) = (y.getD i default)))) rfl Try.call185 (ev2 rfl rfl) rfl (fun w hs => plain1T_c (x.getD i default) (y.getD i default) w)) rfl ?_
      refine x_y (v := .bool (!(decide ((x.getD i default) = (y.getD i default))))) (y_not (b := decide ((x.getD i default) = (y.getD i default))) rfl) rfl ?_
      refine x_nil ?_
      refine thenS_n ?_
      refine wpS_cond (t := !(decide ((x.getD i default) = (y.getD i default)))) rfl (fun b4 => ?_) (fun b4 => ?_)
      · -- !(decide ((x.getD i default) = (y.getD i default))) true
        have b5 : (decide ((x.getD i default) = (y.getD i default))) = false := by simpa using b4
        have p5 := of_decide_eq_false b5
        refine wpS_seq ?_
        refine wpS_region ?_
        refine s_y (v := .bool false) (y_assign rfl) rfl ?_
        refine wpL_nil ?_
        refine thenS_n ?_
        refine wpS_ret ?_
        refine blockS_r ?_
        refine thenS_r ?_
        refine thenS_r ?_
        refine blockS_r ?_
        refine thenS_r ?_
        refine fin1 (M := []) (v := .bool false) (.inr rfl) (.nil) Try.results184 rfl ?_
        exact fun w' hs => ⟨congrArg (fun b => Ending.returned (Value.bool b)) (by exact (gsame_not (i := i) (by assumption)).symm), hs⟩
      · -- !(decide ((x.getD i default) = (y.getD i default))) false
        have b6 : (decide ((x.getD i default) = (y.getD i default))) = true := by simpa using b4
        have p6 := of_decide_eq_true b6
        refine wpS_skip ?_
        refine blockS_n ?_
        refine thenS_n ?_
        refine wpS_region ?_
        refine s_y (v := .int .i64 (((i : Nat) : Int))) (y_move h7_2) rfl ?_
        refine s_y (v := .int .i64 ((((i + 1) : Nat) : Int))) (y_add (a := ((i : Nat) : Int)) (b := 1) (c := (((i + 1) : Nat) : Int)) rfl rfl (wI (by omega) (by omega) (by omega))) rfl ?_
        refine s_y (v := .int .i64 ((((i + 1) : Nat) : Int))) (y_assign rfl) rfl ?_
        refine wpL_nil ?_
        refine thenS_n ?_
        exact ⟨_, by omega, ⟨(i + 1), rfl, by omega, (gsame_step (by omega) (by omega) (by assumption) (by assumption)), rfl, h0_2, h1_2, h2_2, rfl, .nil⟩⟩
    · -- decide (i < nx) false
      have p3 := of_decide_eq_false b3
      refine wpS_exit ?_
      refine thenS_x ?_
      refine thenS_x ?_
      refine blockS_h ?_
      refine thenS_n ?_
      refine wpS_seq ?_
      refine wpS_region ?_
      refine s_y (v := .bool true) (y_assign rfl) rfl ?_
      refine wpL_nil ?_
      refine thenS_n ?_
      refine wpS_ret ?_
      refine fin1 (M := []) (v := .bool true) (.inr rfl) (.nil) Try.results184 rfl ?_
      exact fun w' hs => ⟨congrArg (fun b => Ending.returned (Value.bool b)) (by exact (gsame_all (i := i) hnx hny (by omega) (by omega) (by assumption)).symm), hs⟩

theorem plainT_c (ax ay : Option Addr) (nx ny cx cy : Nat) (x y : List Task) (w : World) (hnx : x.length = nx) (hrx : Rds w ax (x.flatMap taskV)) (hbx : nx ≤ 1000000) (hny : y.length = ny) (hry : Rds w ay (y.flatMap taskV)) (hby : ny ≤ 1000000) : Pure Try.prog 99 #[.slice ax nx cx, .slice ay ny cy] w (.bool ((decide (x = y)))) := by
  refine calls_S (n := 8) (σ0 := (upd (upd fr0 0 (.slice ax nx cx)) 1 (.slice ay ny cy))) (D := []) (A := []) Try.func99 rfl Try.ntmps99 rfl (a2_fr _ _) (SH.start w) ?_
  refine wpS_seq ?_
  refine wpS_region ?_
  refine s_y (v := .bool false) (y_assign rfl) rfl ?_
  refine wpL_nil ?_
  refine thenS_n ?_
  refine wpS_seq ?_
  refine wpS_region ?_
  refine s_y (v := .slice ax nx cx) (y_move rfl) rfl ?_
  refine s_y (v := .slice ay ny cy) (y_move rfl) rfl ?_
  refine s_y (v := .bool (decide (x = y))) (y_call (args := #[.slice ax nx cx, .slice ay ny cy, .func (.func 185) #[] #[]]) (v := .bool (decide (x = y))) Try.call184 (ev3 rfl rfl rfl) (fun w hs => hsameT_c ax ay nx ny cx cy x y w hnx ((oldR hrx) w hs) (by omega) hny ((oldR hry) w hs) (by omega))) rfl ?_
  refine s_y (v := .bool (decide (x = y))) (y_assign rfl) rfl ?_
  refine wpL_nil ?_
  refine thenS_n ?_
  refine wpS_ret ?_
  refine fin1 (M := []) (v := .bool (decide (x = y))) (.inr rfl) (.nil) Try.results99 rfl ?_
  exact fun w' hs => ⟨rfl, hs⟩

theorem seq2t_c (f : Nat) (cap : Array Value) (rd : Nat → Prop) (N : Nat) (hcf : ∀ args w, (callFunc f args).run Try.prog w = .ok (.enter f args) w) (fst : Nat → Int) (snd : Nat → Task) (most : Int) (w : World) (hit : IterAt Try.prog f cap (fun k => #[.int .i64 ((fst k)), .agg #[.int .i64 ((snd k).t0), .int .i64 ((snd k).t1), .int .i64 ((snd k).t2), .int .i64 ((snd k).t3), .bool ((snd k).t4)]]) N rd w) (hN : (N : Int) ≤ most) (hm : N ≤ 100000) (hm2 : most < 9223372036854775808) : Makes Try.prog 98 #[.func (.func f) #[] cap, .int .i64 most] w [] (X := (Option Addr × Nat) × (Option Addr × Nat)) (fun x => .tuple #[slV ((List.range N).map fst) x.1, slV ((List.range N).map snd) x.2, .bool true]) (fun x => [slR intV 1 3 ((List.range N).map fst) x.1, slR taskV 5 120 ((List.range N).map snd) x.2]) (fun _ => True) := by
  refine calls_S (n := 30) (σ0 := (upd (upd fr0 0 (.func (.func f) #[] cap)) 1 (.int .i64 most))) (D := []) (A := []) Try.func98 rfl Try.ntmps98 rfl (a2_fr _ _) (SH.start w) ?_
  refine wpS_seq ?_
  refine wpS_region ?_
  refine s_e rfl ?_
  refine e_box (v := .int .i64 most) (l := [.int .i64 most]) rfl rfl ?_
  intro b_1
  refine s_e rfl ?_
  refine e_alloc (l := [.slice none 0 0]) Try.zeroValue39 rfl ?_
  intro b_2
  refine s_e rfl ?_
  refine e_alloc (l := [.slice none 0 0]) Try.zeroValue115 rfl ?_
  intro b_3
  refine s_e rfl ?_
  refine e_alloc (l := [.bool false]) Try.zeroValue4 rfl ?_
  intro b_4
  refine wpL_nil ?_
  refine thenS_n ?_
  refine wpS_seq ?_
  refine wpS_seq ?_
  refine wpS_region ?_
  refine s_y (v := .func (.func f) #[] cap) (y_move rfl) rfl ?_
  refine s_y (v := .bool false) (y_fnNil rfl rfl Try.underlying113 (by kernel_rfl)) rfl ?_
  refine wpL_nil ?_
  refine thenS_n ?_
  refine wpS_cond_f rfl ?_
  refine wpS_skip ?_
  refine thenS_n ?_
  refine wpS_seq ?_
  refine wpS_region ?_
  refine s_e rfl ?_
  refine e_alloc (l := [.slice none 0 0]) Try.zeroValue39 rfl ?_
  intro b_5
  refine wpL_nil ?_
  refine thenS_n ?_
  refine wpS_seq ?_
  refine wpS_region ?_
  refine s_e rfl ?_
  refine e_alloc (l := [.slice none 0 0]) Try.zeroValue115 rfl ?_
  intro b_6
  refine wpL_nil ?_
  refine thenS_n ?_
  refine wpS_seq ?_
  refine wpS_seq ?_
  refine wpS_region ?_
  refine s_y (v := .func (.func f) #[] cap) (y_move rfl) rfl ?_
  refine wpL_nil ?_
  refine thenS_n ?_
  refine wpS_block ?_
  refine wpS_nil0 1 3 ?_
  refine wpS_nil0 5 120 ?_
  refine wpS_rangeFunc (f := f) (cap := cap) (enc := fun k => #[.int .i64 ((fst k)), .agg #[.int .i64 ((snd k).t0), .int .i64 ((snd k).t1), .int .i64 ((snd k).t2), .int .i64 ((snd k).t3), .bool ((snd k).t4)]]) (N := N) (rd := rd) (A := [osl none 0 0 5 120 (([] : List Task).flatMap taskV), osl none 0 0 1 3 (([] : List Int).flatMap intV), cel b_6 115 [.slice none 0 0], cel b_5 39 [.slice none 0 0], cel b_4 4 [.bool false], cel b_3 115 [.slice none 0 0], cel b_2 39 [.slice none 0 0], cel b_1 3 [.int .i64 most]]) (M := []) (fun k A => ∃ a1 : Option Addr, ∃ c1 : Nat, ∃ a2 : Option Addr, ∃ c2 : Nat, A = [osl a2 c2 (((List.range k).map snd).length) 5 120 (((List.range k).map snd).flatMap taskV), osl a1 c1 (((List.range k).map fst).length) 1 3 (((List.range k).map fst).flatMap intV), cel b_6 115 [.slice a2 (((List.range k).map snd).length) c2], cel b_5 39 [.slice a1 (((List.range k).map fst).length) c1], cel b_4 4 [.bool false], cel b_3 115 [.slice none 0 0], cel b_2 39 [.slice none 0 0], cel b_1 3 [.int .i64 most]]) (fun k e A => False) rfl hcf (by kernel_rfl) (fun _ => rfl) (.p .h (.p .h (.p .h (.p .h (.p .h (.p .h (.p .h (.p .h .nil)))))))) ⟨none, 0, none, 0, rfl⟩ (fun w hs => (hit.mono hs).it) (fun w hs b hb => apNew hs (hit.2 b hb)) ?_ ?_ ?_
  · -- a round
    rintro k A' hk_7 ⟨a1, c1, a2, c2, rfl⟩ w_7 l_7 hs_7
    refine wpS_seq ?_
    refine wpS_region ?_
    refine s_y (v := .int .i64 ((fst k))) (y_assign rfl) rfl ?_
    refine wpL_nil ?_
    refine thenS_n ?_
    refine wpS_region ?_
    refine s_e rfl ?_
    refine e_alloc (l := [.int .i64 0, .int .i64 0, .int .i64 0, .int .i64 0, .bool false]) Try.zeroValue120 rfl ?_
    intro b_8
    refine s_e0 ?_
    refine e_store (vs := [.int .i64 ((snd k).t0), .int .i64 ((snd k).t1), .int .i64 ((snd k).t2), .int .i64 ((snd k).t3), .bool ((snd k).t4)]) (l' := [.int .i64 ((snd k).t0), .int .i64 ((snd k).t1), .int .i64 ((snd k).t2), .int .i64 ((snd k).t3), .bool ((snd k).t4)]) rfl rfl rfl rfl Try.sizeOf120 .h (Nat.le_of_ble_eq_true rfl) rfl ?_
    refine wpL_nil ?_
    refine asg_n fun w2_7 hs2_7 => ?_
    refine wpS_block ?_
    refine wpS_seq ?_
    refine wpS_anyL [cel b_8 120 [.int .i64 ((snd k).t0), .int .i64 ((snd k).t1), .int .i64 ((snd k).t2), .int .i64 ((snd k).t3), .bool ((snd k).t4)], cel b_6 115 [.slice a2 (((List.range k).map snd).length) c2], cel b_5 39 [.slice a1 (((List.range k).map fst).length) c1]] [8, 9] (by kernel_rfl) ?_
    refine anyS_take (i := 0) rfl (by kernel_rfl) (by kernel_rfl) (by kernel_rfl) (by kernel_rfl) (Yq.of (v := .slice a1 (((List.range k).map fst).length) c1) (y_load1 rfl Try.isAgg39 (own1 (.t (.t .h)) rfl)) rfl) (.p .h (.p (.t (.t .h)) (.p (.t (.t .h)) .nil))) ?_
    refine anyS_take (i := 1) rfl (by kernel_rfl) (by kernel_rfl) (by kernel_rfl) (by kernel_rfl) (Yq.of (v := .int .i64 ((fst k))) (y_move rfl) rfl) (.p .h (.p (.t (.t .h)) (.p (.t (.t .h)) .nil))) ?_
    refine anyS_take (i := 4) rfl (by kernel_rfl) (by kernel_rfl) (by kernel_rfl) (by kernel_rfl) (Yq.of (v := .slice a2 (((List.range k).map snd).length) c2) (y_load1 rfl Try.isAgg115 (own1 (.t .h) rfl)) rfl) (.p .h (.p (.t (.t .h)) (.p (.t (.t .h)) .nil))) ?_
    refine anyS_take (i := 5) rfl (by kernel_rfl) (by kernel_rfl) (by kernel_rfl) (by kernel_rfl) (Yq.of (v := .agg #[.int .i64 ((snd k).t0), .int .i64 ((snd k).t1), .int .i64 ((snd k).t2), .int .i64 ((snd k).t3), .bool ((snd k).t4)]) (y_loadN (vs := [.int .i64 ((snd k).t0), .int .i64 ((snd k).t1), .int .i64 ((snd k).t2), .int .i64 ((snd k).t3), .bool ((snd k).t4)]) rfl Try.isAgg120 Try.sizeOf120 (ownN .h rfl)) rfl) (.p .h (.p (.t (.t .h)) (.p (.t (.t .h)) .nil))) ?_
    refine anyS_all (rs := [2, 6]) (by kernel_rfl) (by simp) ?_
    intro i hi9; simp only [List.mem_cons, List.not_mem_nil, or_false] at hi9; rcases hi9 with rfl | rfl
    · -- number 2 first
      refine opS_0 rfl rfl ?_
      refine e_bsliceL (e := 3) (m := [(0, .int .i64 ((fst k)))]) (l := [.int .i64 ((fst k))]) (evc rfl evn) (fun w => by kernel_rfl) ?_
      intro b_10
      refine ⟨.inr (.p (.t .h) (.p (.t (.t (.t .h))) (.p (.t (.t (.t .h))) .nil))), ?_⟩
      refine anyS_all (rs := [3, 6]) (by kernel_rfl) (by simp) ?_
      intro i hi11; simp only [List.mem_cons, List.not_mem_nil, or_false] at hi11; rcases hi11 with rfl | rfl
      · -- number 3 first
        refine opS_0 rfl rfl ?_
        refine e_appendL (enc := intV) (xs := (((List.range k).map fst) : List Int)) (ns := ([(fst k)] : List Int)) (zs := ((List.range (k + 1)).map fst)) (bytes := 8) intV_len intV_one Try.underlying39 (i := Try.t3) rfl rfl rfl rfl rfl (by decide) rfl rfl (by simp) (by first | rfl | omega) (.t (.t (.t .h))) (fun w hs => celR .h w hs) (by rw [List.range_succ, List.map_append]; rfl) (by simp; omega) (by simp; omega) ?_
        intro a_12 c_13
        refine ⟨.inr (.p (.t (.t .h)) (.p (.t (.t (.t .h))) (.p (.t (.t (.t .h))) .nil))), ?_⟩
        refine anyS_all (rs := [6]) (by kernel_rfl) (by simp) ?_
        intro i hi; obtain rfl := List.mem_singleton.1 hi; clear hi
        refine opS_0 rfl rfl ?_
        refine e_bsliceL (e := 120) (m := [(0, .agg #[.int .i64 ((snd k).t0), .int .i64 ((snd k).t1), .int .i64 ((snd k).t2), .int .i64 ((snd k).t3), .bool ((snd k).t4)])]) (l := [.int .i64 ((snd k).t0), .int .i64 ((snd k).t1), .int .i64 ((snd k).t2), .int .i64 ((snd k).t3), .bool ((snd k).t4)]) (evc rfl evn) (fun w => by kernel_rfl) ?_
        intro b_14
        refine ⟨.inr (.p (.t (.t (.t .h))) (.p (.t (.t (.t (.t .h)))) (.p (.t (.t (.t (.t .h)))) .nil))), ?_⟩
        refine anyS_all (rs := [7]) (by kernel_rfl) (by simp) ?_
        intro i hi; obtain rfl := List.mem_singleton.1 hi; clear hi
        refine opS_0 rfl rfl ?_
        refine e_appendL (enc := taskV) (xs := (((List.range k).map snd) : List Task)) (ns := ([(snd k)] : List Task)) (zs := ((List.range (k + 1)).map snd)) (bytes := 40) taskV_len taskV_one Try.underlying115 (i := Try.t120) rfl rfl rfl rfl rfl (by decide) rfl rfl (by simp) (by first | rfl | omega) (.t (.t (.t (.t .h)))) (fun w hs => celR .h w hs) (by rw [List.range_succ, List.map_append]; rfl) (by simp; omega) (by simp; omega) ?_
        intro a_15 c_16
        refine ⟨.inr (.p (.t (.t (.t (.t .h)))) (.p (.t (.t (.t (.t .h)))) (.p (.t (.t (.t (.t .h)))) .nil))), ?_⟩
        refine anyS_all (rs := [8]) (by kernel_rfl) (by simp) ?_
        intro i hi; obtain rfl := List.mem_singleton.1 hi; clear hi
        refine opS_0 rfl rfl ?_
        refine e_store (vs := [.slice a_12 (((List.range (k + 1)).map fst).length) c_13]) (l' := [.slice a_12 (((List.range (k + 1)).map fst).length) c_13]) rfl rfl rfl rfl Try.sizeOf39 (.t (.t (.t (.t (.t (.t .h)))))) (Nat.le_of_ble_eq_true rfl) rfl ?_
        refine ⟨.inl (by simp), ?_⟩
        refine anyS_all (rs := [9]) (by kernel_rfl) (by simp) ?_
        intro i hi; obtain rfl := List.mem_singleton.1 hi; clear hi
        refine opS_0 rfl rfl ?_
        refine e_store (vs := [.slice a_15 (((List.range (k + 1)).map snd).length) c_16]) (l' := [.slice a_15 (((List.range (k + 1)).map snd).length) c_16]) rfl rfl rfl rfl Try.sizeOf115 (.t (.t (.t (.t (.t (.t .h)))))) (Nat.le_of_ble_eq_true rfl) rfl ?_
        refine ⟨.inl (by simp), ?_⟩
        refine anyS_done (by kernel_rfl) ?_
        refine thenS_n ?_
        refine wpS_seq ?_
        refine wpS_region ?_
        refine s_y (v := .slice a_12 (((List.range (k + 1)).map fst).length) c_13) (y_load1 rfl Try.isAgg39 (own1 (.t .h) rfl)) rfl ?_
        refine s_y (v := .int .i64 (((((List.range (k + 1)).map fst).length : Nat) : Int))) (y_len (ty' := 0) (at_ := #[]) rfl Try.underlying39) rfl ?_
        refine s_y (v := .int .i64 most) (y_load1 rfl Try.isAgg3 (own1 (.t (.t (.t (.t (.t (.t (.t (.t (.t (.t .h)))))))))) rfl)) rfl ?_
        refine s_y (v := .bool (decide ((most : Int) < ((((List.range (k + 1)).map fst).length : Nat) : Int)))) (y_gtr (a := ((((List.range (k + 1)).map fst).length : Nat) : Int)) (b := most) rfl rfl rfl) rfl ?_
        refine wpL_nil ?_
        refine thenS_n ?_
        refine wpS_cond_F (t := decide ((most : Int) < ((((List.range (k + 1)).map fst).length : Nat) : Int))) rfl (decide_eq_false (by simp; omega)) ?_
        refine wpS_skip ?_
        refine blockS_n ?_
        exact rnd_n ⟨[osl a_15 c_16 (((List.range (k + 1)).map snd).length) 5 120 (((List.range (k + 1)).map snd).flatMap taskV), osl a_12 c_13 (((List.range (k + 1)).map fst).length) 1 3 (((List.range (k + 1)).map fst).flatMap intV), cel b_6 115 [.slice a_15 (((List.range (k + 1)).map snd).length) c_16], cel b_5 39 [.slice a_12 (((List.range (k + 1)).map fst).length) c_13], cel b_4 4 [.bool false], cel b_3 115 [.slice none 0 0], cel b_2 39 [.slice none 0 0], cel b_1 3 [.int .i64 most]], .p (.t (.t .h)) (.p (.t (.t (.t .h))) (.p .h (.p .h (.p (.t (.t (.t .h))) (.p (.t (.t (.t .h))) (.p (.t (.t (.t .h))) (.p (.t (.t (.t .h))) .nil))))))), ⟨a_12, c_13, a_15, c_16, rfl⟩⟩
      · -- number 6 first
        refine opS_0 rfl rfl ?_
        refine e_bsliceL (e := 120) (m := [(0, .agg #[.int .i64 ((snd k).t0), .int .i64 ((snd k).t1), .int .i64 ((snd k).t2), .int .i64 ((snd k).t3), .bool ((snd k).t4)])]) (l := [.int .i64 ((snd k).t0), .int .i64 ((snd k).t1), .int .i64 ((snd k).t2), .int .i64 ((snd k).t3), .bool ((snd k).t4)]) (evc rfl evn) (fun w => by kernel_rfl) ?_
        intro b_17
        refine ⟨.inr (.p (.t (.t .h)) (.p (.t (.t (.t (.t .h)))) (.p (.t (.t (.t (.t .h)))) .nil))), ?_⟩
        refine anyS_all (rs := [3]) (by kernel_rfl) (by simp) ?_
        intro i hi; obtain rfl := List.mem_singleton.1 hi; clear hi
        refine opS_0 rfl rfl ?_
        refine e_appendL (enc := intV) (xs := (((List.range k).map fst) : List Int)) (ns := ([(fst k)] : List Int)) (zs := ((List.range (k + 1)).map fst)) (bytes := 8) intV_len intV_one Try.underlying39 (i := Try.t3) rfl rfl rfl rfl rfl (by decide) rfl rfl (by simp) (by first | rfl | omega) (.t (.t (.t (.t .h)))) (fun w hs => celR (.t .h) w hs) (by rw [List.range_succ, List.map_append]; rfl) (by simp; omega) (by simp; omega) ?_
        intro a_18 c_19
        refine ⟨.inr (.p (.t (.t (.t .h))) (.p (.t (.t (.t (.t .h)))) (.p (.t (.t (.t (.t .h)))) .nil))), ?_⟩
        refine anyS_all (rs := [7]) (by kernel_rfl) (by simp) ?_
        intro i hi; obtain rfl := List.mem_singleton.1 hi; clear hi
        refine opS_0 rfl rfl ?_
        refine e_appendL (enc := taskV) (xs := (((List.range k).map snd) : List Task)) (ns := ([(snd k)] : List Task)) (zs := ((List.range (k + 1)).map snd)) (bytes := 40) taskV_len taskV_one Try.underlying115 (i := Try.t120) rfl rfl rfl rfl rfl (by decide) rfl rfl (by simp) (by first | rfl | omega) (.t (.t (.t (.t .h)))) (fun w hs => celR (.t .h) w hs) (by rw [List.range_succ, List.map_append]; rfl) (by simp; omega) (by simp; omega) ?_
        intro a_20 c_21
        refine ⟨.inr (.p (.t (.t (.t (.t .h)))) (.p (.t (.t (.t (.t .h)))) (.p (.t (.t (.t (.t .h)))) .nil))), ?_⟩
        refine anyS_all (rs := [8]) (by kernel_rfl) (by simp) ?_
        intro i hi; obtain rfl := List.mem_singleton.1 hi; clear hi
        refine opS_0 rfl rfl ?_
        refine e_store (vs := [.slice a_18 (((List.range (k + 1)).map fst).length) c_19]) (l' := [.slice a_18 (((List.range (k + 1)).map fst).length) c_19]) rfl rfl rfl rfl Try.sizeOf39 (.t (.t (.t (.t (.t (.t .h)))))) (Nat.le_of_ble_eq_true rfl) rfl ?_
        refine ⟨.inl (by simp), ?_⟩
        refine anyS_all (rs := [9]) (by kernel_rfl) (by simp) ?_
        intro i hi; obtain rfl := List.mem_singleton.1 hi; clear hi
        refine opS_0 rfl rfl ?_
        refine e_store (vs := [.slice a_20 (((List.range (k + 1)).map snd).length) c_21]) (l' := [.slice a_20 (((List.range (k + 1)).map snd).length) c_21]) rfl rfl rfl rfl Try.sizeOf115 (.t (.t (.t (.t (.t (.t .h)))))) (Nat.le_of_ble_eq_true rfl) rfl ?_
        refine ⟨.inl (by simp), ?_⟩
        refine anyS_done (by kernel_rfl) ?_
        refine thenS_n ?_
        refine wpS_seq ?_
        refine wpS_region ?_
        refine s_y (v := .slice a_18 (((List.range (k + 1)).map fst).length) c_19) (y_load1 rfl Try.isAgg39 (own1 (.t .h) rfl)) rfl ?_
        refine s_y (v := .int .i64 (((((List.range (k + 1)).map fst).length : Nat) : Int))) (y_len (ty' := 0) (at_ := #[]) rfl Try.underlying39) rfl ?_
        refine s_y (v := .int .i64 most) (y_load1 rfl Try.isAgg3 (own1 (.t (.t (.t (.t (.t (.t (.t (.t (.t (.t .h)))))))))) rfl)) rfl ?_
        refine s_y (v := .bool (decide ((most : Int) < ((((List.range (k + 1)).map fst).length : Nat) : Int)))) (y_gtr (a := ((((List.range (k + 1)).map fst).length : Nat) : Int)) (b := most) rfl rfl rfl) rfl ?_
        refine wpL_nil ?_
        refine thenS_n ?_
        refine wpS_cond_F (t := decide ((most : Int) < ((((List.range (k + 1)).map fst).length : Nat) : Int))) rfl (decide_eq_false (by simp; omega)) ?_
        refine wpS_skip ?_
        refine blockS_n ?_
        exact rnd_n ⟨[osl a_20 c_21 (((List.range (k + 1)).map snd).length) 5 120 (((List.range (k + 1)).map snd).flatMap taskV), osl a_18 c_19 (((List.range (k + 1)).map fst).length) 1 3 (((List.range (k + 1)).map fst).flatMap intV), cel b_6 115 [.slice a_20 (((List.range (k + 1)).map snd).length) c_21], cel b_5 39 [.slice a_18 (((List.range (k + 1)).map fst).length) c_19], cel b_4 4 [.bool false], cel b_3 115 [.slice none 0 0], cel b_2 39 [.slice none 0 0], cel b_1 3 [.int .i64 most]], .p (.t (.t .h)) (.p (.t (.t .h)) (.p .h (.p .h (.p (.t (.t (.t .h))) (.p (.t (.t (.t .h))) (.p (.t (.t (.t .h))) (.p (.t (.t (.t .h))) .nil))))))), ⟨a_18, c_19, a_20, c_21, rfl⟩⟩
    · -- number 6 first
      refine opS_0 rfl rfl ?_
      refine e_bsliceL (e := 120) (m := [(0, .agg #[.int .i64 ((snd k).t0), .int .i64 ((snd k).t1), .int .i64 ((snd k).t2), .int .i64 ((snd k).t3), .bool ((snd k).t4)])]) (l := [.int .i64 ((snd k).t0), .int .i64 ((snd k).t1), .int .i64 ((snd k).t2), .int .i64 ((snd k).t3), .bool ((snd k).t4)]) (evc rfl evn) (fun w => by kernel_rfl) ?_
      intro b_22
      refine ⟨.inr (.p (.t .h) (.p (.t (.t (.t .h))) (.p (.t (.t (.t .h))) .nil))), ?_⟩
      refine anyS_all (rs := [2]) (by kernel_rfl) (by simp) ?_
      intro i hi; obtain rfl := List.mem_singleton.1 hi; clear hi
      refine opS_0 rfl rfl ?_
      refine e_bsliceL (e := 3) (m := [(0, .int .i64 ((fst k)))]) (l := [.int .i64 ((fst k))]) (evc rfl evn) (fun w => by kernel_rfl) ?_
      intro b_23
      refine ⟨.inr (.p (.t (.t .h)) (.p (.t (.t (.t (.t .h)))) (.p (.t (.t (.t (.t .h)))) .nil))), ?_⟩
      refine anyS_all (rs := [3]) (by kernel_rfl) (by simp) ?_
      intro i hi; obtain rfl := List.mem_singleton.1 hi; clear hi
      refine opS_0 rfl rfl ?_
      refine e_appendL (enc := intV) (xs := (((List.range k).map fst) : List Int)) (ns := ([(fst k)] : List Int)) (zs := ((List.range (k + 1)).map fst)) (bytes := 8) intV_len intV_one Try.underlying39 (i := Try.t3) rfl rfl rfl rfl rfl (by decide) rfl rfl (by simp) (by first | rfl | omega) (.t (.t (.t (.t .h)))) (fun w hs => celR .h w hs) (by rw [List.range_succ, List.map_append]; rfl) (by simp; omega) (by simp; omega) ?_
      intro a_24 c_25
      refine ⟨.inr (.p (.t (.t (.t .h))) (.p (.t (.t (.t (.t .h)))) (.p (.t (.t (.t (.t .h)))) .nil))), ?_⟩
      refine anyS_all (rs := [7]) (by kernel_rfl) (by simp) ?_
      intro i hi; obtain rfl := List.mem_singleton.1 hi; clear hi
      refine opS_0 rfl rfl ?_
      refine e_appendL (enc := taskV) (xs := (((List.range k).map snd) : List Task)) (ns := ([(snd k)] : List Task)) (zs := ((List.range (k + 1)).map snd)) (bytes := 40) taskV_len taskV_one Try.underlying115 (i := Try.t120) rfl rfl rfl rfl rfl (by decide) rfl rfl (by simp) (by first | rfl | omega) (.t (.t (.t (.t .h)))) (fun w hs => celR (.t (.t .h)) w hs) (by rw [List.range_succ, List.map_append]; rfl) (by simp; omega) (by simp; omega) ?_
      intro a_26 c_27
      refine ⟨.inr (.p (.t (.t (.t (.t .h)))) (.p (.t (.t (.t (.t .h)))) (.p (.t (.t (.t (.t .h)))) .nil))), ?_⟩
      refine anyS_all (rs := [8]) (by kernel_rfl) (by simp) ?_
      intro i hi; obtain rfl := List.mem_singleton.1 hi; clear hi
      refine opS_0 rfl rfl ?_
      refine e_store (vs := [.slice a_24 (((List.range (k + 1)).map fst).length) c_25]) (l' := [.slice a_24 (((List.range (k + 1)).map fst).length) c_25]) rfl rfl rfl rfl Try.sizeOf39 (.t (.t (.t (.t (.t (.t .h)))))) (Nat.le_of_ble_eq_true rfl) rfl ?_
      refine ⟨.inl (by simp), ?_⟩
      refine anyS_all (rs := [9]) (by kernel_rfl) (by simp) ?_
      intro i hi; obtain rfl := List.mem_singleton.1 hi; clear hi
      refine opS_0 rfl rfl ?_
      refine e_store (vs := [.slice a_26 (((List.range (k + 1)).map snd).length) c_27]) (l' := [.slice a_26 (((List.range (k + 1)).map snd).length) c_27]) rfl rfl rfl rfl Try.sizeOf115 (.t (.t (.t (.t (.t (.t .h)))))) (Nat.le_of_ble_eq_true rfl) rfl ?_
      refine ⟨.inl (by simp), ?_⟩
      refine anyS_done (by kernel_rfl) ?_
      refine thenS_n ?_
      refine wpS_seq ?_
      refine wpS_region ?_
      refine s_y (v := .slice a_24 (((List.range (k + 1)).map fst).length) c_25) (y_load1 rfl Try.isAgg39 (own1 (.t .h) rfl)) rfl ?_
      refine s_y (v := .int .i64 (((((List.range (k + 1)).map fst).length : Nat) : Int))) (y_len (ty' := 0) (at_ := #[]) rfl Try.underlying39) rfl ?_
      refine s_y (v := .int .i64 most) (y_load1 rfl Try.isAgg3 (own1 (.t (.t (.t (.t (.t (.t (.t (.t (.t (.t .h)))))))))) rfl)) rfl ?_
      refine s_y (v := .bool (decide ((most : Int) < ((((List.range (k + 1)).map fst).length : Nat) : Int)))) (y_gtr (a := ((((List.range (k + 1)).map fst).length : Nat) : Int)) (b := most) rfl rfl rfl) rfl ?_
      refine wpL_nil ?_
      refine thenS_n ?_
      refine wpS_cond_F (t := decide ((most : Int) < ((((List.range (k + 1)).map fst).length : Nat) : Int))) rfl (decide_eq_false (by simp; omega)) ?_
      refine wpS_skip ?_
      refine blockS_n ?_
      exact rnd_n ⟨[osl a_26 c_27 (((List.range (k + 1)).map snd).length) 5 120 (((List.range (k + 1)).map snd).flatMap taskV), osl a_24 c_25 (((List.range (k + 1)).map fst).length) 1 3 (((List.range (k + 1)).map fst).flatMap intV), cel b_6 115 [.slice a_26 (((List.range (k + 1)).map snd).length) c_27], cel b_5 39 [.slice a_24 (((List.range (k + 1)).map fst).length) c_25], cel b_4 4 [.bool false], cel b_3 115 [.slice none 0 0], cel b_2 39 [.slice none 0 0], cel b_1 3 [.int .i64 most]], .p (.t (.t .h)) (.p (.t (.t .h)) (.p .h (.p .h (.p (.t (.t (.t .h))) (.p (.t (.t (.t .h))) (.p (.t (.t (.t .h))) (.p (.t (.t (.t .h))) .nil))))))), ⟨a_24, c_25, a_26, c_27, rfl⟩⟩
  · -- behind
    rintro d_7 A' ⟨a1, c1, a2, c2, rfl⟩
    refine blockS_n ?_
    refine thenS_n ?_
    refine wpS_seq ?_
    refine wpS_anyL [cel b_6 115 [.slice a2 (((List.range N).map snd).length) c2], cel b_5 39 [.slice a1 (((List.range N).map fst).length) c1]] [] (by kernel_rfl) ?_
    refine anyS_take (i := 0) rfl (by kernel_rfl) (by kernel_rfl) (by kernel_rfl) (by kernel_rfl) (Yq.of (v := .slice a1 (((List.range N).map fst).length) c1) (y_load1 rfl Try.isAgg39 (own1 (.t .h) rfl)) rfl) (.p (.t (.t (.t .h))) (.p (.t (.t (.t .h))) .nil)) ?_
    refine anyS_take (i := 1) rfl (by kernel_rfl) (by kernel_rfl) (by kernel_rfl) (by kernel_rfl) (Yq.of (v := .slice a2 (((List.range N).map snd).length) c2) (y_load1 rfl Try.isAgg115 (own1 .h rfl)) rfl) (.p (.t (.t (.t .h))) (.p (.t (.t (.t .h))) .nil)) ?_
    refine anyS_all (rs := [2]) (by kernel_rfl) (by simp) ?_
    intro i hi; obtain rfl := List.mem_singleton.1 hi; clear hi
    refine opS_0 rfl rfl ?_
    refine e_store (vs := [.slice a1 (((List.range N).map fst).length) c1]) (l' := [.slice a1 (((List.range N).map fst).length) c1]) rfl rfl rfl rfl Try.sizeOf39 (.t (.t (.t (.t (.t (.t (.t .h))))))) (Nat.le_of_ble_eq_true rfl) rfl ?_
    refine ⟨.inr (.p (.t (.t (.t (.t .h)))) (.p (.t (.t (.t (.t .h)))) .nil)), ?_⟩
    refine anyS_all (rs := [3]) (by kernel_rfl) (by simp) ?_
    intro i hi; obtain rfl := List.mem_singleton.1 hi; clear hi
    refine opS_0 rfl rfl ?_
    refine e_store (vs := [.slice a2 (((List.range N).map snd).length) c2]) (l' := [.slice a2 (((List.range N).map snd).length) c2]) rfl rfl rfl rfl Try.sizeOf115 (.t (.t (.t (.t (.t (.t (.t .h))))))) (Nat.le_of_ble_eq_true rfl) rfl ?_
    refine ⟨.inr (.p (.t (.t (.t (.t (.t .h))))) (.p (.t (.t (.t (.t (.t .h))))) .nil)), ?_⟩
    refine anyS_all (rs := [4]) (by kernel_rfl) (by simp) ?_
    intro i hi; obtain rfl := List.mem_singleton.1 hi; clear hi
    refine opS_0 rfl rfl ?_
    refine e_store (vs := [.bool true]) (l' := [.bool true]) rfl rfl rfl rfl Try.sizeOf4 (.t (.t (.t (.t (.t (.t (.t .h))))))) (Nat.le_of_ble_eq_true rfl) rfl ?_
    refine ⟨.inr (.p (.t (.t (.t (.t (.t (.t .h)))))) (.p (.t (.t (.t (.t (.t (.t .h)))))) .nil)), ?_⟩
    refine anyS_done (by kernel_rfl) ?_
    refine thenS_n ?_
    refine wpS_ret ?_
    refine fin3 (M := [cel b_2 39 [.slice a1 (((List.range N).map fst).length) c1], cel b_3 115 [.slice a2 (((List.range N).map snd).length) c2], cel b_4 4 [.bool true], osl a1 c1 (((List.range N).map fst).length) 1 3 (((List.range N).map fst).flatMap intV), osl a2 c2 (((List.range N).map snd).length) 5 120 (((List.range N).map snd).flatMap taskV)]) (.inr rfl) (.p (.t (.t (.t .h))) (.p (.t (.t .h)) (.p (.t .h) (.p .h (.p (.t .h) (.p .h .nil)))))) Try.results98 (rvC1 (v := .slice a1 (((List.range N).map fst).length) c1) rfl Try.isAgg39 (fun w hs => own1 .h rfl w hs)) (rvC1 (v := .slice a2 (((List.range N).map snd).length) c2) rfl Try.isAgg115 (fun w hs => own1 (.t .h) rfl w hs)) (rvC1 (v := .bool true) rfl Try.isAgg4 (fun w hs => own1 (.t (.t .h)) rfl w hs)) ?_
    exact fun w' hs => ⟨((a1, c1), (a2, c2)), rfl, SH.dropAll (L := [osl a1 c1 (((List.range N).map fst).length) 1 3 (((List.range N).map fst).flatMap intV), osl a2 c2 (((List.range N).map snd).length) 5 120 (((List.range N).map snd).flatMap taskV)]) [_, _, _] hs, trivial⟩
  · -- left
    intro _ _ _ _ _ h; exact h.elim

theorem stopst1_c (v0 : Value) (v1 : Task) (bt bn : Nat) (x : Nat) (n : Int) (w : World) (hx : x < 1000000) (hA : SH w [bt, bn] [cel bt 3 [.int .i64 ((x : Nat) : Int)], cel bn 3 [.int .i64 n]] w) : Calls Try.prog 186 #[v0, .agg #[.int .i64 (v1.t0), .int .i64 (v1.t1), .int .i64 (v1.t2), .int .i64 (v1.t3), .bool (v1.t4)], .pointer (some ⟨bt, 0, none⟩), .pointer (some ⟨bn, 0, none⟩)] w (fun e w' => e = .returned (.bool (decide (((x + 1 : Nat) : Int) < n))) ∧ SH w [bt, bn] [cel bt 3 [.int .i64 ((x + 1 : Nat) : Int)], cel bn 3 [.int .i64 n]] w') := by
  refine calls_S (n := 12) (σ0 := (upd (upd (upd (upd fr0 0 (v0)) 1 (.agg #[.int .i64 (v1.t0), .int .i64 (v1.t1), .int .i64 (v1.t2), .int .i64 (v1.t3), .bool (v1.t4)])) 2 (.pointer (some ⟨bt, 0, none⟩))) 3 (.pointer (some ⟨bn, 0, none⟩)))) (D := [bt, bn]) (A := [cel bt 3 [.int .i64 (((x : Nat) : Int))], cel bn 3 [.int .i64 n]]) Try.func186 rfl Try.ntmps186 rfl (a4_fr _ _ _ _) hA ?_
  refine wpS_seq ?_
  refine wpS_region ?_
  refine s_e rfl ?_
  refine e_box (v := .agg #[.int .i64 (v1.t0), .int .i64 (v1.t1), .int .i64 (v1.t2), .int .i64 (v1.t3), .bool (v1.t4)]) (l := [.int .i64 (v1.t0), .int .i64 (v1.t1), .int .i64 (v1.t2), .int .i64 (v1.t3), .bool (v1.t4)]) rfl rfl ?_
  intro b_1
  refine s_y (v := .bool false) (y_assign rfl) rfl ?_
  refine wpL_nil ?_
  refine thenS_n ?_
  refine wpS_seq ?_
  refine wpS_region ?_
  refine s_y (v := .int .i64 (((x : Nat) : Int))) (y_load1 rfl Try.isAgg3 (own1 (.t .h) rfl)) rfl ?_
  refine s_y (v := .int .i64 ((((x + 1) : Nat) : Int))) (y_add (a := ((x : Nat) : Int)) (b := 1) (c := (((x + 1) : Nat) : Int)) rfl rfl (wI (by omega) (by omega) (by omega))) rfl ?_
  refine s_e0 ?_
  refine e_store (vs := [.int .i64 ((((x + 1) : Nat) : Int))]) (l' := [.int .i64 ((((x + 1) : Nat) : Int))]) rfl rfl rfl rfl Try.sizeOf3 (.t .h) (Nat.le_of_ble_eq_true rfl) rfl ?_
  refine wpL_nil ?_
  refine thenS_n ?_
  refine wpS_seq ?_
  refine wpS_region ?_
  refine s_y (v := .int .i64 ((((x + 1) : Nat) : Int))) (y_load1 rfl Try.isAgg3 (own1 .h rfl)) rfl ?_
  refine s_y (v := .int .i64 n) (y_load1 rfl Try.isAgg3 (own1 (.t (.t .h)) rfl)) rfl ?_
  refine s_y (v := .bool (decide (((((x + 1) : Nat) : Int) : Int) < n))) (y_lss (a := (((x + 1) : Nat) : Int)) (b := n) rfl rfl rfl) rfl ?_
  refine s_y (v := .bool (decide (((((x + 1) : Nat) : Int) : Int) < n))) (y_assign rfl) rfl ?_
  refine wpL_nil ?_
  refine thenS_n ?_
  refine wpS_ret ?_
  refine fin1 (M := [cel bt 3 [.int .i64 ((((x + 1) : Nat) : Int))], cel bn 3 [.int .i64 n]]) (v := .bool (decide (((((x + 1) : Nat) : Int) : Int) < n))) (.inr rfl) (.p .h (.p (.t .h) .nil)) Try.results186 rfl ?_
  exact fun w' hs => ⟨rfl, hs⟩

theorem stopst_c (f : Nat) (cap : Array Value) (rd : Nat → Prop) (N : Nat) (hcf : ∀ args w, (callFunc f args).run Try.prog w = .ok (.enter f args) w) (u0 : Nat → Value) (u1 : Nat → Task) (n : Int) (w : World) (hit : IterAt Try.prog f cap (fun k => #[u0 k, .agg #[.int .i64 ((u1 k).t0), .int .i64 ((u1 k).t1), .int .i64 ((u1 k).t2), .int .i64 ((u1 k).t3), .bool ((u1 k).t4)]]) N rd w) (hN : N < 100000) (hn : 1 ≤ n) (hn2 : n < 9223372036854775808) : Pure Try.prog 100 #[.func (.func f) #[] cap, .int .i64 n] w (.int .i64 (min n (N : Int))) := by
  refine calls_S (n := 16) (σ0 := (upd (upd fr0 0 (.func (.func f) #[] cap)) 1 (.int .i64 n))) (D := []) (A := []) Try.func100 rfl Try.ntmps100 rfl (a2_fr _ _) (SH.start w) ?_
  refine wpS_seq ?_
  refine wpS_region ?_
  refine s_e rfl ?_
  refine e_box (v := .int .i64 n) (l := [.int .i64 n]) rfl rfl ?_
  intro b_1
  refine s_y (v := .int .i64 0) (y_assign rfl) rfl ?_
  refine wpL_nil ?_
  refine thenS_n ?_
  refine wpS_seq ?_
  refine wpS_region ?_
  refine s_e rfl ?_
  refine e_alloc (l := [.int .i64 0]) Try.zeroValue3 rfl ?_
  intro b_2
  refine s_e0 ?_
  refine e_store (vs := [.int .i64 0]) (l' := [.int .i64 0]) rfl rfl rfl rfl Try.sizeOf3 .h (Nat.le_of_ble_eq_true rfl) rfl ?_
  refine wpL_nil ?_
  refine thenS_n ?_
  refine wpS_seq ?_
  refine wpS_seq ?_
  refine wpS_region ?_
  refine s_y (v := .func (.func f) #[] cap) (y_move rfl) rfl ?_
  refine s_y (v := .bool false) (y_fnNil rfl rfl Try.underlying113 (by kernel_rfl)) rfl ?_
  refine s_y (v := .bool false) (y_move rfl) rfl ?_
  refine s_gy (y_load1 rfl Try.isAgg3 (own1 (.t .h) rfl)) rfl rfl rfl rfl rfl rfl ?_
  refine s_gy (y_lss (a := n) (b := 1) rfl rfl rfl) rfl rfl rfl rfl rfl rfl ?_
  refine s_y (v := .bool (decide ((n : Int) < 1))) (y_pickF (v := .bool (decide ((n : Int) < 1))) rfl rfl rfl) rfl ?_
  refine wpL_nil ?_
  refine thenS_n ?_
  refine wpS_cond_F (t := decide ((n : Int) < 1)) rfl (decide_eq_false (by omega)) ?_
  refine wpS_skip ?_
  refine thenS_n ?_
  refine wpS_seq ?_
  refine wpS_region ?_
  refine s_y (v := .func (.func f) #[] cap) (y_move rfl) rfl ?_
  refine s_y (v := .func (.func 186) #[] #[.pointer (some ⟨b_2, 0, none⟩), .pointer (some ⟨b_1, 0, none⟩)]) (y_makeFunc (a := #[]) (b := #[.pointer (some ⟨b_2, 0, none⟩), .pointer (some ⟨b_1, 0, none⟩)]) ev0 (ev2 rfl rfl)) rfl ?_
  refine s_e rfl ?_
  refine e_iter (f := f) (cap := cap) (enc := fun k => #[u0 k, .agg #[.int .i64 ((u1 k).t0), .int .i64 ((u1 k).t1), .int .i64 ((u1 k).t2), .int .i64 ((u1 k).t3), .bool ((u1 k).t4)]]) (N := N) (rd := rd) (yv := .func (.func 186) #[] #[.pointer (some ⟨b_2, 0, none⟩), .pointer (some ⟨b_1, 0, none⟩)]) (A := [cel b_2 3 [.int .i64 ((0 : Nat) : Int)], cel b_1 3 [.int .i64 n]]) (M := []) (fun k A => (k : Int) < n ∧ A = [cel b_2 3 [.int .i64 ((k : Nat) : Int)], cel b_1 3 [.int .i64 n]]) (fun k A => ((k + 1 : Nat) : Int) = n ∧ A = [cel b_2 3 [.int .i64 ((k + 1 : Nat) : Int)], cel b_1 3 [.int .i64 n]]) hcf rfl (ev1 rfl) (.p .h (.p .h .nil)) ⟨by omega, rfl⟩ (fun w hs => (hit.mono hs).it) (fun w hs b hb => (apNew hs (hit.2 b hb)).2) (.inl ⟨186, _, rfl⟩) ?_ ?_ ?_
  · rintro w0' k A' hk ⟨hlt, rfl⟩ w hs hs2
    refine .f Try.call186 ((stopst1_c _ _ b_2 b_1 k n w (by omega) (by simpa [cel, blk] using hs.self)).mono ?_)
    rintro e w' ⟨rfl, h2⟩
    refine ⟨_, _, rfl, by simpa [cel, blk] using h2, ?_⟩
    by_cases hh : ((k + 1 : Nat) : Int) < n
    · rw [decide_eq_true hh]; exact ⟨hh, rfl⟩
    · rw [decide_eq_false hh]; exact ⟨by omega, rfl⟩
  · rintro A' ⟨hlt, rfl⟩
    refine wpL_nil ?_
    refine thenS_n ?_
    refine wpS_seq ?_
    refine wpS_region ?_
    refine s_y (v := .int .i64 (((N : Nat) : Int))) (y_load1 rfl Try.isAgg3 (own1 .h rfl)) rfl ?_
    refine s_y (v := .int .i64 (((N : Nat) : Int))) (y_assign rfl) rfl ?_
    refine wpL_nil ?_
    refine thenS_n ?_
    refine wpS_ret ?_
    refine fin1 (M := []) (v := .int .i64 (((N : Nat) : Int))) (.inr rfl) (.nil) Try.results100 rfl ?_
    exact fun w' hs => ⟨by congr 2; omega, hs⟩
  · rintro k A' hk ⟨hlt, rfl⟩
    refine wpL_nil ?_
    refine thenS_n ?_
    refine wpS_seq ?_
    refine wpS_region ?_
    refine s_y (v := .int .i64 ((((k + 1) : Nat) : Int))) (y_load1 rfl Try.isAgg3 (own1 .h rfl)) rfl ?_
    refine s_y (v := .int .i64 ((((k + 1) : Nat) : Int))) (y_assign rfl) rfl ?_
    refine wpL_nil ?_
    refine thenS_n ?_
    refine wpS_ret ?_
    refine fin1 (M := []) (v := .int .i64 ((((k + 1) : Nat) : Int))) (.inr rfl) (.nil) Try.results100 rfl ?_
    exact fun w' hs => ⟨by congr 2; omega, hs⟩

theorem seq2tk_c (b : Nat) (p : Par) (most : Int) (w : World) (hr : Rds w (some ⟨b, 0, none⟩) (parV p)) (hN : ((cnt p : Nat) : Int) ≤ most) (hm : most < 100000) :
    Makes Try.prog 98 #[.func (.func 182) #[] #[.pointer (some ⟨b, 0, none⟩)], .int .i64 most] w [] (X := (Option Addr × Nat) × (Option Addr × Nat)) (fun x => .tuple #[slV ((List.range (cnt p)).map fun k => ((k : Nat) : Int)) x.1, slV (tasksL p) x.2, .bool true]) (fun x => [slR intV 1 3 ((List.range (cnt p)).map fun k => ((k : Nat) : Int)) x.1, slR taskV 5 120 (tasksL p) x.2]) (fun _ => True) :=
  seq2t_c 182 _ _ _ Try.call182 (fun k => ((k : Nat) : Int)) (tkN p) most w (tasks_at b p w hr) hN (by omega) (by omega)
theorem stopstk_c (b : Nat) (p : Par) (k : Int) (w : World) (hr : Rds w (some ⟨b, 0, none⟩) (parV p)) (hN : cnt p < 100000) (hk : 1 ≤ k) (hk2 : k < 9223372036854775808) : Pure Try.prog 100 #[.func (.func 182) #[] #[.pointer (some ⟨b, 0, none⟩)], .int .i64 k] w (.int .i64 (min k ((cnt p : Nat) : Int))) :=
  stopst_c 182 _ _ _ Try.call182 (fun k => .int .i64 ((k : Nat) : Int)) (tkN p) k w (tasks_at b p w hr) hN hk hk2

end Go.Proofs.Ytldkjjnjdjfipaa
