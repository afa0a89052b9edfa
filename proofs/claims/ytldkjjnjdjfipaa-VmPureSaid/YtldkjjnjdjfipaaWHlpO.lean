/- Operations held against each other, owned and kept; walked. -/
import Derived.Test.YtldkjjnjdjfipaaWLaw11
import Derived.Test.YtldkjjnjdjfipaaWHlpR
namespace Go.Proofs.Ytldkjjnjdjfipaa
open Go Go.RowKit
set_option linter.unusedVariables false
set_option linter.unusedSimpArgs false
set_option maxRecDepth 10000
set_option maxHeartbeats 1000000

theorem few_bd {a b c : List Opc} (h : fewO a b c = true) : a.length < 200 ∧ b.length < 200 ∧ c.length < 200 := of_decide_eq_true h

theorem plain1O_c (a b : Opc) (w : World) : Pure Try.prog 229 #[.agg #[.int .i64 (a.o0), .int .i64 (a.o1), .int .i64 (a.o2), .int .i64 (a.o3), .int .i64 (a.o4), .int .i64 (a.o5.toInt)], .agg #[.int .i64 (b.o0), .int .i64 (b.o1), .int .i64 (b.o2), .int .i64 (b.o3), .int .i64 (b.o4), .int .i64 (b.o5.toInt)]] w (.bool ((decide (a = b)))) := by
  refine calls_S (n := 8) (σ0 := (upd (upd fr0 0 (.agg #[.int .i64 (a.o0), .int .i64 (a.o1), .int .i64 (a.o2), .int .i64 (a.o3), .int .i64 (a.o4), .int .i64 (a.o5.toInt)])) 1 (.agg #[.int .i64 (b.o0), .int .i64 (b.o1), .int .i64 (b.o2), .int .i64 (b.o3), .int .i64 (b.o4), .int .i64 (b.o5.toInt)]))) (D := []) (A := []) Try.func229 rfl Try.ntmps229 rfl (a2_fr _ _) (SH.start w) ?_
  refine wpS_seq ?_
  refine wpS_region ?_
  refine s_e rfl ?_
  refine e_box (v := .agg #[.int .i64 (a.o0), .int .i64 (a.o1), .int .i64 (a.o2), .int .i64 (a.o3), .int .i64 (a.o4), .int .i64 (a.o5.toInt)]) (l := [.int .i64 (a.o0), .int .i64 (a.o1), .int .i64 (a.o2), .int .i64 (a.o3), .int .i64 (a.o4), .int .i64 (a.o5.toInt)]) rfl rfl ?_
  intro b_1
  refine s_e rfl ?_
  refine e_box (v := .agg #[.int .i64 (b.o0), .int .i64 (b.o1), .int .i64 (b.o2), .int .i64 (b.o3), .int .i64 (b.o4), .int .i64 (b.o5.toInt)]) (l := [.int .i64 (b.o0), .int .i64 (b.o1), .int .i64 (b.o2), .int .i64 (b.o3), .int .i64 (b.o4), .int .i64 (b.o5.toInt)]) rfl rfl ?_
  intro b_2
  refine s_y (v := .bool false) (y_assign rfl) rfl ?_
  refine wpL_nil ?_
  refine thenS_n ?_
  refine wpS_seq ?_
  refine wpS_region ?_
  refine s_y (v := .agg #[.int .i64 (a.o0), .int .i64 (a.o1), .int .i64 (a.o2), .int .i64 (a.o3), .int .i64 (a.o4), .int .i64 (a.o5.toInt)]) (y_loadN (vs := [.int .i64 (a.o0), .int .i64 (a.o1), .int .i64 (a.o2), .int .i64 (a.o3), .int .i64 (a.o4), .int .i64 (a.o5.toInt)]) rfl Try.isAgg86 Try.sizeOf86 (ownN (.t .h) rfl)) rfl ?_
  refine s_y (v := .agg #[.int .i64 (b.o0), .int .i64 (b.o1), .int .i64 (b.o2), .int .i64 (b.o3), .int .i64 (b.o4), .int .i64 (b.o5.toInt)]) (y_loadN (vs := [.int .i64 (b.o0), .int .i64 (b.o1), .int .i64 (b.o2), .int .i64 (b.o3), .int .i64 (b.o4), .int .i64 (b.o5.toInt)]) rfl Try.isAgg86 Try.sizeOf86 (ownN .h rfl)) rfl ?_
  refine s_y (v := .bool (decide (a = b))) (y_eqlS (a := #[.int .i64 (a.o0), .int .i64 (a.o1), .int .i64 (a.o2), .int .i64 (a.o3), .int .i64 (a.o4), .int .i64 (a.o5.toInt)]) (b := #[.int .i64 (b.o0), .int .i64 (b.o1), .int .i64 (b.o2), .int .i64 (b.o3), .int .i64 (b.o4), .int .i64 (b.o5.toInt)]) (c := decide (a = b)) Try.eqGuardType86 (fun w => equalO w a b) rfl rfl) rfl ?_
  refine s_y (v := .bool (decide (a = b))) (y_assign rfl) rfl ?_
  refine wpL_nil ?_
  refine thenS_n ?_
  refine wpS_ret ?_
  refine fin1 (M := []) (v := .bool (decide (a = b))) (.inr rfl) (.nil) Try.results229 rfl ?_
  exact fun w' hs => ⟨rfl, hs⟩

theorem hsameO_c (ax ay : Option Addr) (nx ny cx cy : Nat) (x y : List Opc) (w : World) (hnx : x.length = nx) (hrx : Rds w ax (x.flatMap opcV)) (hbx : nx ≤ 1000000) (hny : y.length = ny) (hry : Rds w ay (y.flatMap opcV)) (hby : ny ≤ 1000000) : Pure Try.prog 228 #[.slice ax nx cx, .slice ay ny cy, .func (.func 229) #[] #[]] w (.bool (decide (x = y))) := by
  refine calls_S (n := 30) (σ0 := (upd (upd (upd fr0 0 (.slice ax nx cx)) 1 (.slice ay ny cy)) 2 (.func (.func 229) #[] #[]))) (D := []) (A := []) Try.func228 rfl Try.ntmps228 rfl (a3_fr _ _ _) (SH.start w) ?_
  refine wpS_seq ?_
  refine wpS_region ?_
  refine s_y (v := .bool false) (y_assign rfl) rfl ?_
  refine wpL_nil ?_
  refine thenS_n ?_
  refine wpS_seq ?_
  refine wpS_seq ?_
  refine wpS_region ?_
  refine s_y (v := .slice ax nx cx) (y_move rfl) rfl ?_
  refine s_y (v := .int .i64 (((nx : Nat) : Int))) (y_len (ty' := 0) (at_ := #[]) rfl Try.underlying82) rfl ?_
  refine s_y (v := .slice ay ny cy) (y_move rfl) rfl ?_
  refine s_y (v := .int .i64 (((ny : Nat) : Int))) (y_len (ty' := 0) (at_ := #[]) rfl Try.underlying82) rfl ?_
  refine s_y (v := .bool (decide (nx ≠ ny))) (y_neq (a := ((nx : Nat) : Int)) (b := ((ny : Nat) : Int)) (c := decide (nx ≠ ny)) rfl rfl (decide_eq_decide.2 (by omega))) rfl ?_
  refine wpL_nil ?_
  refine thenS_n ?_
  refine wpS_cond (t := decide (nx ≠ ny)) rfl (fun b1 => ?_) (fun b1 => ?_)
  · -- decide (nx ≠ ny) true
    have p1 := of_decide_eq_true b1
    refine wpS_seq ?_
    refine wpS_region ?_
    refine s_y (v := .bool false) (y_assign rfl) rfl ?_
    refine wpL_nil ?_
    refine thenS_n ?_
    refine wpS_ret ?_
    refine thenS_r ?_
    refine fin1 (M := []) (v := .bool false) (.inr rfl) (.nil) Try.results228 rfl ?_
    exact fun w' hs => ⟨congrArg (fun b => Ending.returned (Value.bool b)) (by exact (decide_eq_false fun h => by subst h; omega).symm), hs⟩
  · -- decide (nx ≠ ny) false
    have p1 := of_decide_eq_false b1
    refine wpS_skip ?_
    refine thenS_n ?_
    refine wpS_seq ?_
    refine wpS_seq ?_
    refine wpS_region ?_
    refine s_y (v := .int .i64 0) (y_assign rfl) rfl ?_
    refine wpL_nil ?_
    refine thenS_n ?_
    refine wpS_block ?_
    refine wpS_loop (fun mez ds σ L => ∃ i : Nat, mez = nx - i ∧ (i ≤ nx) ∧ (x.take i = y.take i) ∧ ds = [] ∧ σ 0 = .slice ax nx cx ∧ σ 1 = .slice ay ny cy ∧ σ 2 = .func (.func 229) #[] #[] ∧ σ 7 = .int .i64 (((i : Nat) : Int)) ∧ Ent L []) (m0 := nx - 0) ⟨0, rfl, by omega, (by simp), rfl, rfl, rfl, rfl, rfl, .nil⟩ ?_
    rintro mez ds σ L ⟨i, hm_2, hf0_2, hf1_2, rfl, h0_2, h1_2, h2_2, h7_2, hE_2⟩
    refine wpS_ent hE_2 ?_; clear hE_2
    refine wpS_seq ?_
    refine wpS_seq ?_
    refine wpS_region ?_
    refine s_y (v := .int .i64 (((i : Nat) : Int))) (y_move h7_2) rfl ?_
    refine s_y (v := .slice ax nx cx) (y_move h0_2) rfl ?_
    refine s_y (v := .int .i64 (((nx : Nat) : Int))) (y_len (ty' := 0) (at_ := #[]) rfl Try.underlying82) rfl ?_
    refine s_y (v := .bool (decide (i < nx))) (y_lss (a := ((i : Nat) : Int)) (b := ((nx : Nat) : Int)) (c := decide (i < nx)) rfl rfl (decide_eq_decide.2 (by omega))) rfl ?_
    refine wpL_nil ?_
    refine thenS_n ?_
    refine wpS_cond (t := decide (i < nx)) rfl (fun b3 => ?_) (fun b3 => ?_)
    · -- decide (i < nx) true
      have p3 := of_decide_eq_true b3
      refine wpS_skip ?_
      refine thenS_n ?_
      refine wpS_seq ?_
      refine wpS_block ?_
      refine wpS_seq ?_
      refine wpS_lex (by kernel_rfl) (by kernel_rfl) ?_
      refine x_y (v := .func (.func 229) #[] #[]) (y_move h2_2) rfl ?_
      refine x_y (v := .slice ax nx cx) (y_move h0_2) rfl ?_
      refine x_y (v := .int .i64 (((i : Nat) : Int))) (y_move h7_2) rfl ?_
      refine x_y (v := .pointer (some ⟨aB ax, aO ax + i * 6, none⟩)) (y_idx (o := i * 6) rfl rfl Try.underlying82 Try.sizeOf86 (oldR hrx) ((fl_len opcV_len _).trans (by first | omega | (simp only [List.length_set, List.length_take, List.length_drop]; done) | (simp only [List.length_set, List.length_take, List.length_drop]; omega))) (by decide) (by omega) (by omega) (by omega)) rfl ?_
      refine x_y (v := .agg #[.int .i64 ((x.getD i default).o0), .int .i64 ((x.getD i default).o1), .int .i64 ((x.getD i default).o2), .int .i64 ((x.getD i default).o3), .int .i64 ((x.getD i default).o4), .int .i64 (((x.getD i default).o5).toInt)]) (y_loadN (vs := opcV (x.getD i default)) rfl Try.isAgg86 Try.sizeOf86 (rdN (oldR hrx) (fl_getN opcV_len x i (by first | omega | (simp only [List.length_set, List.length_take, List.length_drop]; done) | (simp only [List.length_set, List.length_take, List.length_drop]; omega))))) rfl ?_
      refine x_y (v := .slice ay ny cy) (y_move h1_2) rfl ?_
      refine x_y (v := .int .i64 (((i : Nat) : Int))) (y_move h7_2) rfl ?_
      refine x_y (v := .pointer (some ⟨aB ay, aO ay + i * 6, none⟩)) (y_idx (o := i * 6) rfl rfl Try.underlying82 Try.sizeOf86 (oldR hry) ((fl_len opcV_len _).trans (by first | omega | (simp only [List.length_set, List.length_take, List.length_drop]; done) | (simp only [List.length_set, List.length_take, List.length_drop]; omega))) (by decide) (by omega) (by omega) (by omega)) rfl ?_
      refine x_y (v := .agg #[.int .i64 ((y.getD i default).o0), .int .i64 ((y.getD i default).o1), .int .i64 ((y.getD i default).o2), .int .i64 ((y.getD i default).o3), .int .i64 ((y.getD i default).o4), .int .i64 (((y.getD i default).o5).toInt)]) (y_loadN (vs := opcV (y.getD i default)) rfl Try.isAgg86 Try.sizeOf86 (rdN (oldR hry) (fl_getN opcV_len y i (by first | omega | (simp only [List.length_set, List.length_take, List.length_drop]; done) | (simp only [List.length_set, List.length_take, List.length_drop]; omega))))) rfl ?_
      refine x_y (v := .bool (decide ((x.getD i default) = (y.getD i default)))) (y_callV (cap := #[]) (args := #[.agg #[.int .i64 ((x.getD i default).o0), .int .i64 ((x.getD i default).o1), .int .i64 ((x.getD i default).o2), .int .i64 ((x.getD i default).o3), .int .i64 ((x.getD i default).o4), .int .i64 (((x.getD i default).o5).toInt)], .agg #[.int .i64 ((y.getD i default).o0), .int .i64 ((y.getD i default).o1), .int .i64 ((y.getD i default).o2), .int .i64 ((y.getD i default).o3), .int .i64 ((y.getD i default).o4), .int .i64 (((y.getD i default).o5).toInt)]]) (args' := #[.agg #[.int .i64 ((x.getD i default).o0), .int .i64 ((x.getD i default).o1), .int .i64 ((x.getD i default).o2), .int .i64 ((x.getD i default).o3), .int .i64 ((x.getD i default).o4), .int .i64 (((x.getD i default).o5).toInt)], .agg #[.int .i64 ((y.getD i default).o0), .int .i64 ((y.getD i default).o1), .int .i64 ((y.getD i default).o2), .int .i64 ((y.getD i default).o3), .int .i64 ((y.getD i default).o4), .int .i64 (((y.getD i default).o5).toInt)]]) (v := .bool (decide ((x.getD i default) = (y.getD i default)))) rfl Try.call229 (ev2 rfl rfl) rfl (fun w hs => plain1O_c (x.getD i default) (y.getD i default) w)) rfl ?_
      refine x_y (v := .bool (!(decide ((x.getD i default) = (y.getD i default))))) (y_not (b := decide ((x.getD i default) = (y.getD i default))) rfl) rfl ?_
      refine x_nil ?_
      refine thenS_n ?_
      refine wpS_cond (t := !(decide ((x.getD i default) = (y.getD i default)))) rfl (fun b4 => ?_) (fun b4 => ?_)
      · -- !(decide ((x.getD i default) = (y.getD i default))) true
        have b5 : (decide ((x.getD i default) = (y.getD i default))) = false := by simpa using b4
        have p5 := of_decide_eq_false b5
        refine wpS_seq ?_
        refine wpS_region ?_
        refine s_y (v := .bool false) (y_assign rfl) rfl ?_
        refine wpL_nil ?_
        refine thenS_n ?_
        refine wpS_ret ?_
        refine blockS_r ?_
        refine thenS_r ?_
        refine thenS_r ?_
        refine blockS_r ?_
        refine thenS_r ?_
        refine fin1 (M := []) (v := .bool false) (.inr rfl) (.nil) Try.results228 rfl ?_
        exact fun w' hs => ⟨congrArg (fun b => Ending.returned (Value.bool b)) (by exact (gsame_not (i := i) (by assumption)).symm), hs⟩
      · -- !(decide ((x.getD i default) = (y.getD i default))) false
        have b6 : (decide ((x.getD i default) = (y.getD i default))) = true := by simpa using b4
        have p6 := of_decide_eq_true b6
        refine wpS_skip ?_
        refine blockS_n ?_
        refine thenS_n ?_
        refine wpS_region ?_
        refine s_y (v := .int .i64 (((i : Nat) : Int))) (y_move h7_2) rfl ?_
        refine s_y (v := .int .i64 ((((i + 1) : Nat) : Int))) (y_add (a := ((i : Nat) : Int)) (b := 1) (c := (((i + 1) : Nat) : Int)) rfl rfl (wI (by omega) (by omega) (by omega))) rfl ?_
        refine s_y (v := .int .i64 ((((i + 1) : Nat) : Int))) (y_assign rfl) rfl ?_
        refine wpL_nil ?_
        refine thenS_n ?_
        exact ⟨_, by omega, ⟨(i + 1), rfl, by omega, (gsame_step (by omega) (by omega) (by assumption) (by assumption)), rfl, h0_2, h1_2, h2_2, rfl, .nil⟩⟩
    · -- decide (i < nx) false
      have p3 := of_decide_eq_false b3
      refine wpS_exit ?_
      refine thenS_x ?_
      refine thenS_x ?_
      refine blockS_h ?_
      refine thenS_n ?_
      refine wpS_seq ?_
      refine wpS_region ?_
      refine s_y (v := .bool true) (y_assign rfl) rfl ?_
      refine wpL_nil ?_
      refine thenS_n ?_
      refine wpS_ret ?_
      refine fin1 (M := []) (v := .bool true) (.inr rfl) (.nil) Try.results228 rfl ?_
      exact fun w' hs => ⟨congrArg (fun b => Ending.returned (Value.bool b)) (by exact (gsame_all (i := i) hnx hny (by omega) (by omega) (by assumption)).symm), hs⟩

theorem plainO_c (ax ay : Option Addr) (nx ny cx cy : Nat) (x y : List Opc) (w : World) (hnx : x.length = nx) (hrx : Rds w ax (x.flatMap opcV)) (hbx : nx ≤ 1000000) (hny : y.length = ny) (hry : Rds w ay (y.flatMap opcV)) (hby : ny ≤ 1000000) : Pure Try.prog 176 #[.slice ax nx cx, .slice ay ny cy] w (.bool ((decide (x = y)))) := by
  refine calls_S (n := 8) (σ0 := (upd (upd fr0 0 (.slice ax nx cx)) 1 (.slice ay ny cy))) (D := []) (A := []) Try.func176 rfl Try.ntmps176 rfl (a2_fr _ _) (SH.start w) ?_
  refine wpS_seq ?_
  refine wpS_region ?_
  refine s_y (v := .bool false) (y_assign rfl) rfl ?_
  refine wpL_nil ?_
  refine thenS_n ?_
  refine wpS_seq ?_
  refine wpS_region ?_
  refine s_y (v := .slice ax nx cx) (y_move rfl) rfl ?_
  refine s_y (v := .slice ay ny cy) (y_move rfl) rfl ?_
  refine s_y (v := .bool (decide (x = y))) (y_call (args := #[.slice ax nx cx, .slice ay ny cy, .func (.func 229) #[] #[]]) (v := .bool (decide (x = y))) Try.call228 (ev3 rfl rfl rfl) (fun w hs => hsameO_c ax ay nx ny cx cy x y w hnx ((oldR hrx) w hs) (by omega) hny ((oldR hry) w hs) (by omega))) rfl ?_
  refine s_y (v := .bool (decide (x = y))) (y_assign rfl) rfl ?_
  refine wpL_nil ?_
  refine thenS_n ?_
  refine wpS_ret ?_
  refine fin1 (M := []) (v := .bool (decide (x = y))) (.inr rfl) (.nil) Try.results176 rfl ?_
  exact fun w' hs => ⟨rfl, hs⟩

theorem ownO_c (a : Option Addr) (n c : Nat) (l : List Opc) (v : Opc) (w : World) (hn : l.length = n) (hr : Rds w a (l.flatMap opcV)) (hb : n ≤ 1000000) : Makes Try.prog 87 #[.slice a n c, .agg #[.int .i64 (v.o0), .int .i64 (v.o1), .int .i64 (v.o2), .int .i64 (v.o3), .int .i64 (v.o4), .int .i64 (v.o5.toInt)]] w [] (X := Nat) (fun b => .slice (some ⟨b, 0, none⟩) n (n + 3)) (fun b => [osl (some ⟨b, 0, none⟩) (n + 3) (n + 3) 6 86 ((ownL l v).flatMap opcV)]) (fun _ => True) := by
  refine calls_S (n := 33) (σ0 := (upd (upd fr0 0 (.slice a n c)) 1 (.agg #[.int .i64 (v.o0), .int .i64 (v.o1), .int .i64 (v.o2), .int .i64 (v.o3), .int .i64 (v.o4), .int .i64 (v.o5.toInt)]))) (D := []) (A := []) Try.func87 rfl Try.ntmps87 rfl (a2_fr _ _) (SH.start w) ?_
  refine wpS_seq ?_
  refine wpS_region ?_
  refine s_e rfl ?_
  refine e_box (v := .agg #[.int .i64 (v.o0), .int .i64 (v.o1), .int .i64 (v.o2), .int .i64 (v.o3), .int .i64 (v.o4), .int .i64 (v.o5.toInt)]) (l := [.int .i64 (v.o0), .int .i64 (v.o1), .int .i64 (v.o2), .int .i64 (v.o3), .int .i64 (v.o4), .int .i64 (v.o5.toInt)]) rfl rfl ?_
  intro b_1
  refine s_y (v := .slice none 0 0) (y_assign rfl) rfl ?_
  refine wpL_nil ?_
  refine thenS_n ?_
  refine wpS_seq ?_
  refine wpS_region ?_
  refine s_y (v := .slice a n c) (y_move rfl) rfl ?_
  refine s_y (v := .int .i64 (((n : Nat) : Int))) (y_len (ty' := 0) (at_ := #[]) rfl Try.underlying82) rfl ?_
  refine s_y (v := .int .i64 ((((n + 3) : Nat) : Int))) (y_add (a := ((n : Nat) : Int)) (b := 3) (c := (((n + 3) : Nat) : Int)) rfl rfl (wI (by omega) (by omega) (by omega))) rfl ?_
  refine s_e rfl ?_
  refine e_make (enc := opcV) (y0 := (Opc.mk 0 0 0 0 0 0)) (m := 0) (c := (n + 3)) (bytes := 48) opcV_len (by decide) Try.underlying82 (i := Try.t86) rfl rfl rfl rfl rfl rfl rfl (by omega) (by omega) (by omega) ?_
  intro b_2
  refine s_y (v := .slice (some ⟨b_2, 0, none⟩) 0 (n + 3)) (y_assign rfl) rfl ?_
  refine wpL_nil ?_
  refine thenS_n ?_
  refine wpS_seq ?_
  refine wpS_region ?_
  refine s_y (v := .slice (some ⟨b_2, 0, none⟩) 0 (n + 3)) (y_move rfl) rfl ?_
  refine s_y (v := .slice a n c) (y_move rfl) rfl ?_
  refine s_e rfl ?_
  refine e_appendIn (enc := opcV) (xs := ((List.replicate (n + 3) (Opc.mk 0 0 0 0 0 0)) : List Opc)) (ns := (l : List Opc)) (zs := (ownTo l (Opc.mk 0 0 0 0 0 0) v 0)) opcV_len opcV_one Try.underlying82 (i := Try.t86) rfl rfl (by decide) rfl rfl hn.symm .h (by rw [List.length_replicate]) (oldR hr) (by omega) (by subst hn; exact ownTo_0 l (Opc.mk 0 0 0 0 0 0) v) ?_
  refine s_y (v := .slice (some ⟨b_2, 0, none⟩) (0 + n) (n + 3)) (y_assign rfl) rfl ?_
  refine wpL_nil ?_
  refine thenS_n ?_
  refine wpS_seq ?_
  refine wpS_region ?_
  refine s_y (v := .slice (some ⟨b_2, 0, none⟩) (0 + n) (n + 3)) (y_move rfl) rfl ?_
  refine s_y (v := .slice a n c) (y_move rfl) rfl ?_
  refine s_y (v := .int .i64 (((n : Nat) : Int))) (y_len (ty' := 0) (at_ := #[]) rfl Try.underlying82) rfl ?_
  refine s_y (v := .int .i64 ((((n + 3) : Nat) : Int))) (y_add (a := ((n : Nat) : Int)) (b := 3) (c := (((n + 3) : Nat) : Int)) rfl rfl (wI (by omega) (by omega) (by omega))) rfl ?_
  refine s_y (v := .slice (some ⟨b_2, 0, none⟩) (n + 3) (n + 3)) (y_sliceH (h' := n + 3) rfl rfl Try.underlying82 Try.sizeOf86 (by omega) (by omega) (by omega)) rfl ?_
  refine s_y (v := .slice (some ⟨b_2, 0, none⟩) (n + 3) (n + 3)) (y_assign rfl) rfl ?_
  refine wpL_nil ?_
  refine thenS_n ?_
  refine wpS_seq ?_
  refine wpS_seq ?_
  refine wpS_region ?_
  refine s_y (v := .slice a n c) (y_move rfl) rfl ?_
  refine s_y (v := .int .i64 (((n : Nat) : Int))) (y_len (ty' := 0) (at_ := #[]) rfl Try.underlying82) rfl ?_
  refine s_y (v := .int .i64 (((n : Nat) : Int))) (y_assign rfl) rfl ?_
  refine wpL_nil ?_
  refine thenS_n ?_
  refine wpS_block ?_
  refine wpS_loop (fun mez ds σ L => ∃ i : Nat, mez = 3 - i ∧ (i ≤ 3) ∧ ds = [] ∧ σ 3 = .pointer (some ⟨b_1, 0, none⟩) ∧ σ 5 = .slice (some ⟨b_2, 0, none⟩) (0 + n) (n + 3) ∧ σ 6 = .slice (some ⟨b_2, 0, none⟩) (n + 3) (n + 3) ∧ σ 7 = .int .i64 ((((n + i) : Nat) : Int)) ∧ Ent L [osl (some ⟨b_2, 0, none⟩) (n + 3) (n + 3) 6 86 ((ownTo l (Opc.mk 0 0 0 0 0 0) v i).flatMap opcV), cel b_1 86 [.int .i64 (v.o0), .int .i64 (v.o1), .int .i64 (v.o2), .int .i64 (v.o3), .int .i64 (v.o4), .int .i64 (v.o5.toInt)]]) (m0 := 3 - 0) ⟨0, rfl, by omega, rfl, rfl, rfl, rfl, rfl, .p .h (.p .h .nil)⟩ ?_
  rintro mez ds σ L ⟨i, hm_3, hf0_3, rfl, h3_3, h5_3, h6_3, h7_3, hE_3⟩
  refine wpS_ent hE_3 ?_; clear hE_3
  have hol := ownTo_len l (Opc.mk 0 0 0 0 0 0) v (i := i) (by omega)
  refine wpS_seq ?_
  refine wpS_seq ?_
  refine wpS_region ?_
  refine s_y (v := .int .i64 ((((n + i) : Nat) : Int))) (y_move h7_3) rfl ?_
  refine s_y (v := .slice (some ⟨b_2, 0, none⟩) (n + 3) (n + 3)) (y_move h6_3) rfl ?_
  refine s_y (v := .int .i64 ((((n + 3) : Nat) : Int))) (y_len (ty' := 0) (at_ := #[]) rfl Try.underlying82) rfl ?_
  refine s_y (v := .bool (decide ((n + i) < (n + 3)))) (y_lss (a := (((n + i) : Nat) : Int)) (b := (((n + 3) : Nat) : Int)) (c := decide ((n + i) < (n + 3))) rfl rfl (decide_eq_decide.2 (by omega))) rfl ?_
  refine wpL_nil ?_
  refine thenS_n ?_
  refine wpS_cond (t := decide ((n + i) < (n + 3))) rfl (fun b4 => ?_) (fun b4 => ?_)
  · -- decide ((n + i) < (n + 3)) true
    have p4 := of_decide_eq_true b4
    refine wpS_skip ?_
    refine thenS_n ?_
    refine wpS_seq ?_
    refine wpS_block ?_
    refine wpS_region ?_
    refine s_y (v := .slice (some ⟨b_2, 0, none⟩) (n + 3) (n + 3)) (y_move h6_3) rfl ?_
    refine s_y (v := .int .i64 ((((n + i) : Nat) : Int))) (y_move h7_3) rfl ?_
    refine s_y (v := .agg #[.int .i64 (v.o0), .int .i64 (v.o1), .int .i64 (v.o2), .int .i64 (v.o3), .int .i64 (v.o4), .int .i64 (v.o5.toInt)]) (y_loadN (vs := [.int .i64 (v.o0), .int .i64 (v.o1), .int .i64 (v.o2), .int .i64 (v.o3), .int .i64 (v.o4), .int .i64 (v.o5.toInt)]) h3_3 Try.isAgg86 Try.sizeOf86 (ownN (.t .h) rfl)) rfl ?_
    refine s_y (v := .pointer (some ⟨aB (some ⟨b_2, 0, none⟩), aO (some ⟨b_2, 0, none⟩) + (n + i) * 6, none⟩)) (y_idx (o := (n + i) * 6) rfl rfl Try.underlying82 Try.sizeOf86 (oslR .h) ((fl_len opcV_len _).trans (by first | omega | (simp only [List.length_set, List.length_take, List.length_drop]; done) | (simp only [List.length_set, List.length_take, List.length_drop]; omega))) (by decide) (by omega) (by omega) (by omega)) rfl ?_
    refine s_e0 ?_
    refine e_storeL' (enc := opcV) (xs := (ownTo l (Opc.mk 0 0 0 0 0 0) v i)) (y := v) (zs := (ownTo l (Opc.mk 0 0 0 0 0 0) v (i + 1))) opcV_len opcV_one (by decide) rfl rfl rfl Try.sizeOf86 .h (by omega) (by rw [show n + i = l.length + i by omega]; exact ownTo_set l (Opc.mk 0 0 0 0 0 0) v (by omega)) ?_
    refine wpL_nil ?_
    refine blockS_n ?_
    refine thenS_n ?_
    refine wpS_region ?_
    refine s_y (v := .int .i64 ((((n + i) : Nat) : Int))) (y_move h7_3) rfl ?_
    refine s_y (v := .int .i64 (((((n + i) + 1) : Nat) : Int))) (y_add (a := (((n + i) : Nat) : Int)) (b := 1) (c := ((((n + i) + 1) : Nat) : Int)) rfl rfl (wI (by omega) (by omega) (by omega))) rfl ?_
    refine s_y (v := .int .i64 (((((n + i) + 1) : Nat) : Int))) (y_assign rfl) rfl ?_
    refine wpL_nil ?_
    refine thenS_n ?_
    exact ⟨_, by omega, ⟨(i + 1), rfl, by omega, rfl, h3_3, h5_3, h6_3, rfl, .p .h (.p .h .nil)⟩⟩
  · -- decide ((n + i) < (n + 3)) false
    have p4 := of_decide_eq_false b4
    refine wpS_exit ?_
    refine thenS_x ?_
    refine thenS_x ?_
    refine blockS_h ?_
    refine thenS_n ?_
    refine wpS_seq ?_
    refine wpS_region ?_
    refine s_y (v := .slice (some ⟨b_2, 0, none⟩) (0 + n) (n + 3)) (y_move h5_3) rfl ?_
    refine s_y (v := .slice (some ⟨b_2, 0, none⟩) (0 + n) (n + 3)) (y_assign rfl) rfl ?_
    refine wpL_nil ?_
    refine thenS_n ?_
    refine wpS_ret ?_
    refine fin1 (M := [osl (some ⟨b_2, 0, none⟩) (n + 3) (n + 3) 6 86 ((ownTo l (Opc.mk 0 0 0 0 0 0) v i).flatMap opcV)]) (v := .slice (some ⟨b_2, 0, none⟩) (0 + n) (n + 3)) (.inr rfl) (.p .h .nil) Try.results87 rfl ?_
    exact fun w' hs => ⟨b_2, by rw [Nat.zero_add], by rw [show i = 3 by omega, ownTo_3] at hs; exact hs, trivial⟩

theorem keptO_c (b : Nat) (a : Option Addr) (n c : Nat) (l : List Opc) (v : Opc) (w : World) (hn : l.length = n) (hr : Rds w a (l.flatMap opcV)) (hb : n ≤ 1000000) (hro : Rds w (some ⟨b, 0, none⟩) ((ownL l v).flatMap opcV)) : Pure Try.prog 88 #[.slice (some ⟨b, 0, none⟩) n (n + 3), .slice a n c, .agg #[.int .i64 (v.o0), .int .i64 (v.o1), .int .i64 (v.o2), .int .i64 (v.o3), .int .i64 (v.o4), .int .i64 (v.o5.toInt)]] w (.bool true) := by
  refine calls_S (n := 40) (σ0 := (upd (upd (upd fr0 0 (.slice (some ⟨b, 0, none⟩) n (n + 3))) 1 (.slice a n c)) 2 (.agg #[.int .i64 (v.o0), .int .i64 (v.o1), .int .i64 (v.o2), .int .i64 (v.o3), .int .i64 (v.o4), .int .i64 (v.o5.toInt)]))) (D := []) (A := []) Try.func88 rfl Try.ntmps88 rfl (a3_fr _ _ _) (SH.start w) ?_
  have hol := ownL_len l v
  have hrl : Rds w (some ⟨b, 0, none⟩) (l.flatMap opcV) := by have h1 := hro.take (l.length * 6); rw [fl_take opcV_len, ownL_take] at h1; exact h1
  refine wpS_seq ?_
  refine wpS_region ?_
  refine s_e rfl ?_
  refine e_box (v := .agg #[.int .i64 (v.o0), .int .i64 (v.o1), .int .i64 (v.o2), .int .i64 (v.o3), .int .i64 (v.o4), .int .i64 (v.o5.toInt)]) (l := [.int .i64 (v.o0), .int .i64 (v.o1), .int .i64 (v.o2), .int .i64 (v.o3), .int .i64 (v.o4), .int .i64 (v.o5.toInt)]) rfl rfl ?_
  intro b_1
  refine s_y (v := .bool false) (y_assign rfl) rfl ?_
  refine wpL_nil ?_
  refine thenS_n ?_
  refine wpS_seq ?_
  refine wpS_seq ?_
  refine wpS_region ?_
  refine s_y (v := .slice (some ⟨b, 0, none⟩) n (n + 3)) (y_move rfl) rfl ?_
  refine s_y (v := .slice a n c) (y_move rfl) rfl ?_
  refine s_y (v := .bool (decide (l = l))) (y_call (args := #[.slice (some ⟨b, 0, none⟩) n (n + 3), .slice a n c]) (v := .bool (decide (l = l))) Try.call176 (ev2 rfl rfl) (fun w hs => plainO_c (some ⟨b, 0, none⟩) a n n (n + 3) c l l w hn ((oldR hrl) w hs) (by omega) hn ((oldR hr) w hs) (by omega))) rfl ?_
  refine s_y (v := .bool (!(decide (l = l)))) (y_not (b := decide (l = l)) rfl) rfl ?_
  refine s_y (v := .bool (!(decide (l = l)))) (y_move rfl) rfl ?_
  refine s_gy (y_move rfl) rfl rfl rfl rfl (b' := !(decide (l = l))) rfl (by simp) ?_
  refine s_gy (y_cap rfl Try.underlying82) rfl rfl rfl rfl (b' := !(decide (l = l))) rfl (by simp) ?_
  refine s_gy (y_move rfl) rfl rfl rfl rfl (b' := !(decide (l = l))) rfl (by simp) ?_
  refine s_gy (y_len (ty' := 0) (at_ := #[]) rfl Try.underlying82) rfl rfl rfl rfl (b' := !(decide (l = l))) rfl (by simp) ?_
  refine s_gy (y_add (a := ((n : Nat) : Int)) (b := 3) (c := (((n + 3) : Nat) : Int)) rfl rfl (wI (by omega) (by omega) (by omega))) rfl rfl rfl rfl (b' := !(decide (l = l))) rfl (by simp) ?_
  refine s_gy (y_lss (a := (((n + 3) : Nat) : Int)) (b := (((n + 3) : Nat) : Int)) (c := decide ((n + 3) < (n + 3))) rfl rfl (decide_eq_decide.2 (by omega))) rfl rfl rfl rfl (b' := !(decide (l = l))) rfl (by simp) ?_
  refine s_y (v := .bool (decide ((n + 3) < (n + 3)))) (y_pickF (b := !(decide (l = l))) (v := .bool (decide ((n + 3) < (n + 3)))) rfl (by simp) rfl) rfl ?_
  refine wpL_nil ?_
  refine thenS_n ?_
  refine wpS_cond_F (t := decide ((n + 3) < (n + 3))) rfl (decide_eq_false (by omega)) ?_
  refine wpS_skip ?_
  refine thenS_n ?_
  refine wpS_seq ?_
  refine wpS_region ?_
  refine s_y (v := .slice (some ⟨b, 0, none⟩) n (n + 3)) (y_move rfl) rfl ?_
  refine s_y (v := .slice a n c) (y_move rfl) rfl ?_
  refine s_y (v := .int .i64 (((n : Nat) : Int))) (y_len (ty' := 0) (at_ := #[]) rfl Try.underlying82) rfl ?_
  refine s_y (v := .int .i64 ((((n + 3) : Nat) : Int))) (y_add (a := ((n : Nat) : Int)) (b := 3) (c := (((n + 3) : Nat) : Int)) rfl rfl (wI (by omega) (by omega) (by omega))) rfl ?_
  refine s_y (v := .slice (some ⟨b, 0, none⟩) (n + 3) (n + 3)) (y_sliceH (h' := n + 3) rfl rfl Try.underlying82 Try.sizeOf86 (by omega) (by omega) (by omega)) rfl ?_
  refine s_y (v := .slice (some ⟨b, 0, none⟩) (n + 3) (n + 3)) (y_assign rfl) rfl ?_
  refine wpL_nil ?_
  refine thenS_n ?_
  refine wpS_seq ?_
  refine wpS_seq ?_
  refine wpS_region ?_
  refine s_y (v := .slice a n c) (y_move rfl) rfl ?_
  refine s_y (v := .int .i64 (((n : Nat) : Int))) (y_len (ty' := 0) (at_ := #[]) rfl Try.underlying82) rfl ?_
  refine s_y (v := .int .i64 (((n : Nat) : Int))) (y_assign rfl) rfl ?_
  refine wpL_nil ?_
  refine thenS_n ?_
  refine wpS_block ?_
  refine wpS_loop (fun mez ds σ L => ∃ i : Nat, mez = 3 - i ∧ (i ≤ 3) ∧ ds = [] ∧ σ 5 = .pointer (some ⟨b_1, 0, none⟩) ∧ σ 7 = .slice (some ⟨b, 0, none⟩) (n + 3) (n + 3) ∧ σ 8 = .int .i64 ((((n + i) : Nat) : Int)) ∧ Ent L [cel b_1 86 [.int .i64 (v.o0), .int .i64 (v.o1), .int .i64 (v.o2), .int .i64 (v.o3), .int .i64 (v.o4), .int .i64 (v.o5.toInt)]]) (m0 := 3 - 0) ⟨0, rfl, by omega, rfl, rfl, rfl, rfl, .p .h .nil⟩ ?_
  rintro mez ds σ L ⟨i, hm_2, hf0_2, rfl, h5_2, h7_2, h8_2, hE_2⟩
  refine wpS_ent hE_2 ?_; clear hE_2
  refine wpS_seq ?_
  refine wpS_seq ?_
  refine wpS_region ?_
  refine s_y (v := .int .i64 ((((n + i) : Nat) : Int))) (y_move h8_2) rfl ?_
  refine s_y (v := .slice (some ⟨b, 0, none⟩) (n + 3) (n + 3)) (y_move h7_2) rfl ?_
  refine s_y (v := .int .i64 ((((n + 3) : Nat) : Int))) (y_len (ty' := 0) (at_ := #[]) rfl Try.underlying82) rfl ?_
  refine s_y (v := .bool (decide ((n + i) < (n + 3)))) (y_lss (a := (((n + i) : Nat) : Int)) (b := (((n + 3) : Nat) : Int)) (c := decide ((n + i) < (n + 3))) rfl rfl (decide_eq_decide.2 (by omega))) rfl ?_
  refine wpL_nil ?_
  refine thenS_n ?_
  refine wpS_cond (t := decide ((n + i) < (n + 3))) rfl (fun b3 => ?_) (fun b3 => ?_)
  · -- decide ((n + i) < (n + 3)) true
    have p3 := of_decide_eq_true b3
    refine wpS_skip ?_
    refine thenS_n ?_
    refine wpS_seq ?_
    refine wpS_block ?_
    refine wpS_seq ?_
    refine wpS_lex (by kernel_rfl) (by kernel_rfl) ?_
    refine x_y (v := .slice (some ⟨b, 0, none⟩) (n + 3) (n + 3)) (y_move h7_2) rfl ?_
    refine x_y (v := .int .i64 ((((n + i) : Nat) : Int))) (y_move h8_2) rfl ?_
    refine x_y (v := .pointer (some ⟨aB (some ⟨b, 0, none⟩), aO (some ⟨b, 0, none⟩) + (n + i) * 6, none⟩)) (y_idx (o := (n + i) * 6) rfl rfl Try.underlying82 Try.sizeOf86 (oldR hro) ((fl_len opcV_len _).trans (by first | omega | (simp only [List.length_set, List.length_take, List.length_drop]; done) | (simp only [List.length_set, List.length_take, List.length_drop]; omega))) (by decide) (by omega) (by omega) (by omega)) rfl ?_
    refine x_y (v := .agg #[.int .i64 (((ownL l v).getD (n + i) default).o0), .int .i64 (((ownL l v).getD (n + i) default).o1), .int .i64 (((ownL l v).getD (n + i) default).o2), .int .i64 (((ownL l v).getD (n + i) default).o3), .int .i64 (((ownL l v).getD (n + i) default).o4), .int .i64 ((((ownL l v).getD (n + i) default).o5).toInt)]) (y_loadN (vs := opcV ((ownL l v).getD (n + i) default)) rfl Try.isAgg86 Try.sizeOf86 (rdN (oldR hro) (fl_getN opcV_len (ownL l v) (n + i) (by first | omega | (simp only [List.length_set, List.length_take, List.length_drop]; done) | (simp only [List.length_set, List.length_take, List.length_drop]; omega))))) rfl ?_
    refine x_y (v := .agg #[.int .i64 (v.o0), .int .i64 (v.o1), .int .i64 (v.o2), .int .i64 (v.o3), .int .i64 (v.o4), .int .i64 (v.o5.toInt)]) (y_loadN (vs := [.int .i64 (v.o0), .int .i64 (v.o1), .int .i64 (v.o2), .int .i64 (v.o3), .int .i64 (v.o4), .int .i64 (v.o5.toInt)]) h5_2 Try.isAgg86 Try.sizeOf86 (ownN .h rfl)) rfl ?_
    refine x_y (v := .bool (!(decide (((ownL l v).getD (n + i) default) = v)))) (y_neqS (a := #[.int .i64 (((ownL l v).getD (n + i) default).o0), .int .i64 (((ownL l v).getD (n + i) default).o1), .int .i64 (((ownL l v).getD (n + i) default).o2), .int .i64 (((ownL l v).getD (n + i) default).o3), .int .i64 (((ownL l v).getD (n + i) default).o4), .int .i64 ((((ownL l v).getD (n + i) default).o5).toInt)]) (b := #[.int .i64 (v.o0), .int .i64 (v.o1), .int .i64 (v.o2), .int .i64 (v.o3), .int .i64 (v.o4), .int .i64 (v.o5.toInt)]) (c := decide (((ownL l v).getD (n + i) default) = v)) Try.eqGuardType86 (fun w => equalO w ((ownL l v).getD (n + i) default) v) rfl rfl) rfl ?_
    refine x_nil ?_
    refine thenS_n ?_
    refine wpS_cond_F (t := !(decide (((ownL l v).getD (n + i) default) = v))) rfl (by rw [ownL_at l v (by omega) (by omega)]; simp) ?_
    refine wpS_skip ?_
    refine blockS_n ?_
    refine thenS_n ?_
    refine wpS_region ?_
    refine s_y (v := .int .i64 ((((n + i) : Nat) : Int))) (y_move h8_2) rfl ?_
    refine s_y (v := .int .i64 (((((n + i) + 1) : Nat) : Int))) (y_add (a := (((n + i) : Nat) : Int)) (b := 1) (c := ((((n + i) + 1) : Nat) : Int)) rfl rfl (wI (by omega) (by omega) (by omega))) rfl ?_
    refine s_y (v := .int .i64 (((((n + i) + 1) : Nat) : Int))) (y_assign rfl) rfl ?_
    refine wpL_nil ?_
    refine thenS_n ?_
    exact ⟨_, by omega, ⟨(i + 1), rfl, by omega, rfl, h5_2, h7_2, rfl, .p .h .nil⟩⟩
  · -- decide ((n + i) < (n + 3)) false
    have p3 := of_decide_eq_false b3
    refine wpS_exit ?_
    refine thenS_x ?_
    refine thenS_x ?_
    refine blockS_h ?_
    refine thenS_n ?_
    refine wpS_seq ?_
    refine wpS_region ?_
    refine s_y (v := .bool true) (y_assign rfl) rfl ?_
    refine wpL_nil ?_
    refine thenS_n ?_
    refine wpS_ret ?_
    refine fin1 (M := []) (v := .bool true) (.inr rfl) (.nil) Try.results88 rfl ?_
    exact fun w' hs => ⟨rfl, hs⟩

theorem pure_vm (k : Int) (a1 a2 a3 : Option Addr) (n1 c1 n2 c2 n3 c3 : Nat) (l1 l2 l3 : List Opc) (nn u v : Int64) (w : World) (hn1 : l1.length = n1) (hr1 : Rds w a1 (l1.flatMap opcV)) (hn2 : l2.length = n2) (hr2 : Rds w a2 (l2.flatMap opcV)) (hn3 : l3.length = n3) (hr3 : Rds w a3 (l3.flatMap opcV)) : Pure Try.prog 21 #[.agg #[.int .i64 k, .slice a1 n1 c1, .slice a2 n2 c2, .slice a3 n3 c3], .int .i64 (nn.toInt), .agg #[.int .i64 (u.toInt), .int .i64 (v.toInt)]] w (.bool true) := by
  refine calls_S (n := 82) (σ0 := (upd (upd (upd fr0 0 (.agg #[.int .i64 k, .slice a1 n1 c1, .slice a2 n2 c2, .slice a3 n3 c3])) 1 (.int .i64 (nn.toInt))) 2 (.agg #[.int .i64 (u.toInt), .int .i64 (v.toInt)]))) (D := []) (A := []) Try.func21 rfl Try.ntmps21 rfl (a3_fr _ _ _) (SH.start w) ?_
  refine wpS_seq ?_
  refine wpS_region ?_
  refine s_e rfl ?_
  refine e_box (v := .agg #[.int .i64 k, .slice a1 n1 c1, .slice a2 n2 c2, .slice a3 n3 c3]) (l := [.int .i64 k, .slice a1 n1 c1, .slice a2 n2 c2, .slice a3 n3 c3]) rfl rfl ?_
  intro b_1
  refine s_e rfl ?_
  refine e_box (v := .agg #[.int .i64 (u.toInt), .int .i64 (v.toInt)]) (l := [.int .i64 (u.toInt), .int .i64 (v.toInt)]) rfl rfl ?_
  intro b_2
  refine s_y (v := .bool false) (y_assign rfl) rfl ?_
  refine wpL_nil ?_
  refine thenS_n ?_
  refine wpS_seq ?_
  refine wpS_seq ?_
  refine wpS_region ?_
  refine s_y (v := .agg #[.int .i64 k, .slice a1 n1 c1, .slice a2 n2 c2, .slice a3 n3 c3]) (y_loadN (vs := [.int .i64 k, .slice a1 n1 c1, .slice a2 n2 c2, .slice a3 n3 c3]) rfl Try.isAgg84 Try.sizeOf84 (ownN (.t .h) rfl)) rfl ?_
  refine s_y (v := .bool (fewO l1 l2 l3)) (y_call (args := #[.agg #[.int .i64 k, .slice a1 n1 c1, .slice a2 n2 c2, .slice a3 n3 c3]]) (v := .bool (fewO l1 l2 l3)) Try.call86 (ev1 rfl) (fun w hs => few11_c k a1 a2 a3 n1 c1 n2 c2 n3 c3 l1 l2 l3 w hn1 hn2 hn3)) rfl ?_
  refine s_y (v := .bool (!(fewO l1 l2 l3))) (y_not (b := fewO l1 l2 l3) rfl) rfl ?_
  refine wpL_nil ?_
  refine thenS_n ?_
  refine wpS_cond (t := !(fewO l1 l2 l3)) rfl (fun b3 => ?_) (fun b3 => ?_)
  · -- !(fewO l1 l2 l3) true
    have b4 : (fewO l1 l2 l3) = false := by simpa using b3
    refine wpS_seq ?_
    refine wpS_region ?_
    refine s_y (v := .bool true) (y_call (args := #[]) (v := .bool true) Try.call82 ev0 (fun w hs => awake11_c w)) rfl ?_
    refine s_y (v := .bool true) (y_assign rfl) rfl ?_
    refine wpL_nil ?_
    refine thenS_n ?_
    refine wpS_ret ?_
    refine thenS_r ?_
    refine fin1 (v := .bool true) (.inr rfl) (.nil) Try.results21 rfl ?_
    exact fun w' hs => ⟨rfl, hs⟩
  · -- !(fewO l1 l2 l3) false
    have b5 : (fewO l1 l2 l3) = true := by simpa using b3
    obtain ⟨hf1, hf2, hf3⟩ := few_bd (by assumption : fewO l1 l2 l3 = true)
    refine wpS_skip ?_
    refine thenS_n ?_
    refine wpS_seq ?_
    refine wpS_anyL [cel b_1 84 [.int .i64 k, .slice a1 n1 c1, .slice a2 n2 c2, .slice a3 n3 c3]] [] (by kernel_rfl) ?_
    refine anyS_take (i := 0) rfl (by kernel_rfl) (by kernel_rfl) (by kernel_rfl) (by kernel_rfl) (Yq.of (v := .pointer (some ⟨b_1, 0, none⟩)) (y_fieldAddr (o' := 0) rfl Try.underlying84 rfl Try.sizeOf3 (by decide) rfl) rfl) (.p (.t .h) .nil) ?_
    refine anyS_take (i := 1) rfl (by kernel_rfl) (by kernel_rfl) (by kernel_rfl) (by kernel_rfl) (Yq.of (v := .int .i64 k) (y_load1 rfl Try.isAgg3 (own1 .h rfl)) rfl) (.p (.t .h) .nil) ?_
    refine anyS_take (i := 2) rfl (by kernel_rfl) (by kernel_rfl) (by kernel_rfl) (by kernel_rfl) (Yq.of (v := .pointer (some ⟨b_1, 1, none⟩)) (y_fieldAddr (o' := 1) rfl Try.underlying84 rfl Try.sizeOf82 (by decide) rfl) rfl) (.p (.t .h) .nil) ?_
    refine anyS_take (i := 3) rfl (by kernel_rfl) (by kernel_rfl) (by kernel_rfl) (by kernel_rfl) (Yq.of (v := .slice a1 n1 c1) (y_load1 rfl Try.isAgg82 (own1 .h rfl)) rfl) (.p (.t .h) .nil) ?_
    refine anyS_take (i := 4) rfl (by kernel_rfl) (by kernel_rfl) (by kernel_rfl) (by kernel_rfl) (Yq.of (v := .agg #[.int .i64 0, .int .i64 71, .int .i64 0, .int .i64 0, .int .i64 0, .int .i64 0]) (y_buildL (m := [(1, .int .i64 71)]) (vs := #[.int .i64 0, .int .i64 71, .int .i64 0, .int .i64 0, .int .i64 0, .int .i64 0]) (evc rfl evn) (fun w => by kernel_rfl)) rfl) (.p (.t .h) .nil) ?_
    refine anyS_take (i := 6) rfl (by kernel_rfl) (by kernel_rfl) (by kernel_rfl) (by kernel_rfl) (Yq.of (v := .pointer (some ⟨b_1, 2, none⟩)) (y_fieldAddr (o' := 2) rfl Try.underlying84 rfl Try.sizeOf82 (by decide) rfl) rfl) (.p (.t .h) .nil) ?_
    refine anyS_take (i := 7) rfl (by kernel_rfl) (by kernel_rfl) (by kernel_rfl) (by kernel_rfl) (Yq.of (v := .slice a2 n2 c2) (y_load1 rfl Try.isAgg82 (own1 .h rfl)) rfl) (.p (.t .h) .nil) ?_
    refine anyS_take (i := 8) rfl (by kernel_rfl) (by kernel_rfl) (by kernel_rfl) (by kernel_rfl) (Yq.of (v := .agg #[.int .i64 0, .int .i64 71, .int .i64 0, .int .i64 0, .int .i64 0, .int .i64 0]) (y_buildL (m := [(1, .int .i64 71)]) (vs := #[.int .i64 0, .int .i64 71, .int .i64 0, .int .i64 0, .int .i64 0, .int .i64 0]) (evc rfl evn) (fun w => by kernel_rfl)) rfl) (.p (.t .h) .nil) ?_
    refine anyS_take (i := 10) rfl (by kernel_rfl) (by kernel_rfl) (by kernel_rfl) (by kernel_rfl) (Yq.of (v := .pointer (some ⟨b_1, 3, none⟩)) (y_fieldAddr (o' := 3) rfl Try.underlying84 rfl Try.sizeOf82 (by decide) rfl) rfl) (.p (.t .h) .nil) ?_
    refine anyS_take (i := 11) rfl (by kernel_rfl) (by kernel_rfl) (by kernel_rfl) (by kernel_rfl) (Yq.of (v := .slice a3 n3 c3) (y_load1 rfl Try.isAgg82 (own1 .h rfl)) rfl) (.p (.t .h) .nil) ?_
    refine anyS_take (i := 12) rfl (by kernel_rfl) (by kernel_rfl) (by kernel_rfl) (by kernel_rfl) (Yq.of (v := .agg #[.int .i64 0, .int .i64 71, .int .i64 0, .int .i64 0, .int .i64 0, .int .i64 0]) (y_buildL (m := [(1, .int .i64 71)]) (vs := #[.int .i64 0, .int .i64 71, .int .i64 0, .int .i64 0, .int .i64 0, .int .i64 0]) (evc rfl evn) (fun w => by kernel_rfl)) rfl) (.p (.t .h) .nil) ?_
    refine anyS_all (rs := [5, 15]) (by kernel_rfl) (by simp) ?_
    intro i hi6; simp only [List.mem_cons, List.not_mem_nil, or_false] at hi6; rcases hi6 with rfl | rfl
    · -- number 5 first
      refine opS_0 rfl rfl ?_
      refine e_call (f := 87) (args := #[.slice a1 n1 c1, .agg #[.int .i64 0, .int .i64 71, .int .i64 0, .int .i64 0, .int .i64 0, .int .i64 0]]) (X := Nat) (A := []) (M := [cel b_2 89 [.int .i64 (u.toInt), .int .i64 (v.toInt)], cel b_1 84 [.int .i64 k, .slice a1 n1 c1, .slice a2 n2 c2, .slice a3 n3 c3]]) (V := fun b => .slice (some ⟨b, 0, none⟩) n1 (n1 + 3)) (A' := fun b => [osl (some ⟨b, 0, none⟩) (n1 + 3) (n1 + 3) 6 86 ((ownL l1 (Opc.mk 0 71 0 0 0 0)).flatMap opcV)]) (C := fun _ => True) Try.call87 (ev2 rfl rfl) (.p .h (.p .h .nil)) (fun w hs => ownO_c a1 n1 c1 l1 (Opc.mk 0 71 0 0 0 0) w hn1 ((oldR hr1) w hs) (by omega)) ?_
      rintro b_7 -
      refine ⟨.inr (.p (.t (.t .h)) .nil), ?_⟩
      refine anyS_all (rs := [9, 15]) (by kernel_rfl) (by simp) ?_
      intro i hi9; simp only [List.mem_cons, List.not_mem_nil, or_false] at hi9; rcases hi9 with rfl | rfl
      · -- number 9 first
        refine opS_0 rfl rfl ?_
        refine e_call (f := 87) (args := #[.slice a2 n2 c2, .agg #[.int .i64 0, .int .i64 71, .int .i64 0, .int .i64 0, .int .i64 0, .int .i64 0]]) (X := Nat) (A := []) (M := [osl (some ⟨b_7, 0, none⟩) (n1 + 3) (n1 + 3) 6 86 ((ownL l1 (Opc.mk 0 71 0 0 0 0)).flatMap opcV), cel b_2 89 [.int .i64 (u.toInt), .int .i64 (v.toInt)], cel b_1 84 [.int .i64 k, .slice a1 n1 c1, .slice a2 n2 c2, .slice a3 n3 c3]]) (V := fun b => .slice (some ⟨b, 0, none⟩) n2 (n2 + 3)) (A' := fun b => [osl (some ⟨b, 0, none⟩) (n2 + 3) (n2 + 3) 6 86 ((ownL l2 (Opc.mk 0 71 0 0 0 0)).flatMap opcV)]) (C := fun _ => True) Try.call87 (ev2 rfl rfl) (.p .h (.p .h (.p .h .nil))) (fun w hs => ownO_c a2 n2 c2 l2 (Opc.mk 0 71 0 0 0 0) w hn2 ((oldR hr2) w hs) (by omega)) ?_
        rintro b_10 -
        refine ⟨.inr (.p (.t (.t (.t .h))) .nil), ?_⟩
        refine anyS_all (rs := [13, 15]) (by kernel_rfl) (by simp) ?_
        intro i hi12; simp only [List.mem_cons, List.not_mem_nil, or_false] at hi12; rcases hi12 with rfl | rfl
        · -- number 13 first
          refine opS_0 rfl rfl ?_
          refine e_call (f := 87) (args := #[.slice a3 n3 c3, .agg #[.int .i64 0, .int .i64 71, .int .i64 0, .int .i64 0, .int .i64 0, .int .i64 0]]) (X := Nat) (A := []) (M := [osl (some ⟨b_10, 0, none⟩) (n2 + 3) (n2 + 3) 6 86 ((ownL l2 (Opc.mk 0 71 0 0 0 0)).flatMap opcV), osl (some ⟨b_7, 0, none⟩) (n1 + 3) (n1 + 3) 6 86 ((ownL l1 (Opc.mk 0 71 0 0 0 0)).flatMap opcV), cel b_2 89 [.int .i64 (u.toInt), .int .i64 (v.toInt)], cel b_1 84 [.int .i64 k, .slice a1 n1 c1, .slice a2 n2 c2, .slice a3 n3 c3]]) (V := fun b => .slice (some ⟨b, 0, none⟩) n3 (n3 + 3)) (A' := fun b => [osl (some ⟨b, 0, none⟩) (n3 + 3) (n3 + 3) 6 86 ((ownL l3 (Opc.mk 0 71 0 0 0 0)).flatMap opcV)]) (C := fun _ => True) Try.call87 (ev2 rfl rfl) (.p .h (.p .h (.p .h (.p .h .nil)))) (fun w hs => ownO_c a3 n3 c3 l3 (Opc.mk 0 71 0 0 0 0) w hn3 ((oldR hr3) w hs) (by omega)) ?_
          rintro b_13 -
          refine ⟨.inr (.p (.t (.t (.t (.t .h)))) .nil), ?_⟩
          refine anyS_take (i := 14) rfl (by kernel_rfl) (by kernel_rfl) (by kernel_rfl) (by kernel_rfl) (Yq.of (v := .agg #[.int .i64 k, .slice (some ⟨b_7, 0, none⟩) n1 (n1 + 3), .slice (some ⟨b_10, 0, none⟩) n2 (n2 + 3), .slice (some ⟨b_13, 0, none⟩) n3 (n3 + 3)]) (y_buildL (m := [(0, .int .i64 k), (1, .slice (some ⟨b_7, 0, none⟩) n1 (n1 + 3)), (2, .slice (some ⟨b_10, 0, none⟩) n2 (n2 + 3)), (3, .slice (some ⟨b_13, 0, none⟩) n3 (n3 + 3))]) (vs := #[.int .i64 k, .slice (some ⟨b_7, 0, none⟩) n1 (n1 + 3), .slice (some ⟨b_10, 0, none⟩) n2 (n2 + 3), .slice (some ⟨b_13, 0, none⟩) n3 (n3 + 3)]) (evc rfl (evc rfl (evc rfl (evc rfl evn)))) (fun w => by kernel_rfl)) rfl) (.p (.t (.t (.t (.t .h)))) .nil) ?_
          refine anyS_all (rs := [15]) (by kernel_rfl) (by simp) ?_
          intro i hi; obtain rfl := List.mem_singleton.1 hi; clear hi
          refine opS_0 rfl rfl ?_
          refine e_alloc (l := [.int .i64 0, .slice none 0 0, .slice none 0 0, .slice none 0 0]) Try.zeroValue84 rfl ?_
          intro b_15
          refine ⟨.inr (.p (.t (.t (.t (.t (.t .h))))) .nil), ?_⟩
          refine anyS_all (rs := [16]) (by kernel_rfl) (by simp) ?_
          intro i hi; obtain rfl := List.mem_singleton.1 hi; clear hi
          refine opS_0 rfl rfl ?_
          refine e_store (vs := [.int .i64 k, .slice (some ⟨b_7, 0, none⟩) n1 (n1 + 3), .slice (some ⟨b_10, 0, none⟩) n2 (n2 + 3), .slice (some ⟨b_13, 0, none⟩) n3 (n3 + 3)]) (l' := [.int .i64 k, .slice (some ⟨b_7, 0, none⟩) n1 (n1 + 3), .slice (some ⟨b_10, 0, none⟩) n2 (n2 + 3), .slice (some ⟨b_13, 0, none⟩) n3 (n3 + 3)]) rfl rfl rfl rfl Try.sizeOf84 .h (Nat.le_of_ble_eq_true rfl) rfl ?_
          refine ⟨.inr (.p (.t (.t (.t (.t (.t .h))))) .nil), ?_⟩
          refine anyS_done (by kernel_rfl) ?_
          refine thenS_n ?_
          refine wpS_seq ?_
          refine wpS_anyL [cel b_15 84 [.int .i64 k, .slice (some ⟨b_7, 0, none⟩) n1 (n1 + 3), .slice (some ⟨b_10, 0, none⟩) n2 (n2 + 3), .slice (some ⟨b_13, 0, none⟩) n3 (n3 + 3)], cel b_2 89 [.int .i64 (u.toInt), .int .i64 (v.toInt)]] [] (by kernel_rfl) ?_
          refine anyS_take (i := 0) rfl (by kernel_rfl) (by kernel_rfl) (by kernel_rfl) (by kernel_rfl) (Yq.of (v := .agg #[.int .i64 k, .slice (some ⟨b_7, 0, none⟩) n1 (n1 + 3), .slice (some ⟨b_10, 0, none⟩) n2 (n2 + 3), .slice (some ⟨b_13, 0, none⟩) n3 (n3 + 3)]) (y_loadN (vs := [.int .i64 k, .slice (some ⟨b_7, 0, none⟩) n1 (n1 + 3), .slice (some ⟨b_10, 0, none⟩) n2 (n2 + 3), .slice (some ⟨b_13, 0, none⟩) n3 (n3 + 3)]) rfl Try.isAgg84 Try.sizeOf84 (ownN .h rfl)) rfl) (.p .h (.p (.t (.t (.t .h))) .nil)) ?_
          refine anyS_take (i := 1) rfl (by kernel_rfl) (by kernel_rfl) (by kernel_rfl) (by kernel_rfl) (Yq.of (v := .int .i64 (nn.toInt)) (y_move rfl) rfl) (.p .h (.p (.t (.t (.t .h))) .nil)) ?_
          refine anyS_take (i := 2) rfl (by kernel_rfl) (by kernel_rfl) (by kernel_rfl) (by kernel_rfl) (Yq.of (v := .agg #[.int .i64 (u.toInt), .int .i64 (v.toInt)]) (y_loadN (vs := [.int .i64 (u.toInt), .int .i64 (v.toInt)]) rfl Try.isAgg89 Try.sizeOf89 (ownN (.t .h) rfl)) rfl) (.p .h (.p (.t (.t (.t .h))) .nil)) ?_
          refine anyS_take (i := 4) rfl (by kernel_rfl) (by kernel_rfl) (by kernel_rfl) (by kernel_rfl) (Yq.of (v := .agg #[.int .i64 k, .slice (some ⟨b_7, 0, none⟩) n1 (n1 + 3), .slice (some ⟨b_10, 0, none⟩) n2 (n2 + 3), .slice (some ⟨b_13, 0, none⟩) n3 (n3 + 3)]) (y_loadN (vs := [.int .i64 k, .slice (some ⟨b_7, 0, none⟩) n1 (n1 + 3), .slice (some ⟨b_10, 0, none⟩) n2 (n2 + 3), .slice (some ⟨b_13, 0, none⟩) n3 (n3 + 3)]) rfl Try.isAgg84 Try.sizeOf84 (ownN .h rfl)) rfl) (.p .h (.p (.t (.t (.t .h))) .nil)) ?_
          refine anyS_take (i := 5) rfl (by kernel_rfl) (by kernel_rfl) (by kernel_rfl) (by kernel_rfl) (Yq.of (v := .int .i64 (nn.toInt)) (y_move rfl) rfl) (.p .h (.p (.t (.t (.t .h))) .nil)) ?_
          refine anyS_take (i := 6) rfl (by kernel_rfl) (by kernel_rfl) (by kernel_rfl) (by kernel_rfl) (Yq.of (v := .agg #[.int .i64 (u.toInt), .int .i64 (v.toInt)]) (y_loadN (vs := [.int .i64 (u.toInt), .int .i64 (v.toInt)]) rfl Try.isAgg89 Try.sizeOf89 (ownN (.t .h) rfl)) rfl) (.p .h (.p (.t (.t (.t .h))) .nil)) ?_
          refine anyS_all (rs := [3]) (by kernel_rfl) (by simp) ?_
          intro i hi; obtain rfl := List.mem_singleton.1 hi; clear hi
          refine opS_0 rfl rfl ?_
          refine e_call (f := 83) (args := #[.agg #[.int .i64 k, .slice (some ⟨b_7, 0, none⟩) n1 (n1 + 3), .slice (some ⟨b_10, 0, none⟩) n2 (n2 + 3), .slice (some ⟨b_13, 0, none⟩) n3 (n3 + 3)], .int .i64 (nn.toInt), .agg #[.int .i64 (u.toInt), .int .i64 (v.toInt)]]) (X := Option Addr × Nat) (A := []) (M := [cel b_15 84 [.int .i64 k, .slice (some ⟨b_7, 0, none⟩) n1 (n1 + 3), .slice (some ⟨b_10, 0, none⟩) n2 (n2 + 3), .slice (some ⟨b_13, 0, none⟩) n3 (n3 + 3)], osl (some ⟨b_13, 0, none⟩) (n3 + 3) (n3 + 3) 6 86 ((ownL l3 (Opc.mk 0 71 0 0 0 0)).flatMap opcV), osl (some ⟨b_10, 0, none⟩) (n2 + 3) (n2 + 3) 6 86 ((ownL l2 (Opc.mk 0 71 0 0 0 0)).flatMap opcV), osl (some ⟨b_7, 0, none⟩) (n1 + 3) (n1 + 3) 6 86 ((ownL l1 (Opc.mk 0 71 0 0 0 0)).flatMap opcV), cel b_2 89 [.int .i64 (u.toInt), .int .i64 (v.toInt)], cel b_1 84 [.int .i64 k, .slice a1 n1 c1, .slice a2 n2 c2, .slice a3 n3 c3]]) (V := slV (mapC (chkB k l1 l2 l3) k l1 nn u v)) (A' := fun x => [slR recV 4 23 (mapC (chkB k l1 l2 l3) k l1 nn u v) x]) (C := fun _ => True) Try.call83 (ev3 rfl rfl rfl) (.p .h (.p .h (.p .h (.p .h (.p .h (.p .h .nil)))))) (fun w hs => map_c k (some ⟨b_7, 0, none⟩) (some ⟨b_10, 0, none⟩) (some ⟨b_13, 0, none⟩) n1 (n1 + 3) n2 (n2 + 3) n3 (n3 + 3) l1 l2 l3 nn u v w (by omega) ((rdsT' opcV_len (ownL_take' (by omega)) (oslR (.t (.t (.t .h))))) w hs) (by omega) (by omega) ((rdsT' opcV_len (ownL_take' (by omega)) (oslR (.t (.t .h)))) w hs) (by omega) (by omega) ((rdsT' opcV_len (ownL_take' (by omega)) (oslR (.t .h))) w hs) (by omega)) ?_
          rintro ⟨a_16, c_17⟩ -
          have hml19 : (mapC (chkB k l1 l2 l3) k l1 nn u v).length ≤ 4 := mapC_len
          refine ⟨.inr (.p (.t .h) (.p (.t (.t (.t (.t .h)))) .nil)), ?_⟩
          refine anyS_all (rs := [7]) (by kernel_rfl) (by simp) ?_
          intro i hi; obtain rfl := List.mem_singleton.1 hi; clear hi
          refine opS_0 rfl rfl ?_
          refine e_call (f := 83) (args := #[.agg #[.int .i64 k, .slice (some ⟨b_7, 0, none⟩) n1 (n1 + 3), .slice (some ⟨b_10, 0, none⟩) n2 (n2 + 3), .slice (some ⟨b_13, 0, none⟩) n3 (n3 + 3)], .int .i64 (nn.toInt), .agg #[.int .i64 (u.toInt), .int .i64 (v.toInt)]]) (X := Option Addr × Nat) (A := []) (M := [osl a_16 c_17 ((mapC (chkB k l1 l2 l3) k l1 nn u v).length) 4 23 ((mapC (chkB k l1 l2 l3) k l1 nn u v).flatMap recV), cel b_15 84 [.int .i64 k, .slice (some ⟨b_7, 0, none⟩) n1 (n1 + 3), .slice (some ⟨b_10, 0, none⟩) n2 (n2 + 3), .slice (some ⟨b_13, 0, none⟩) n3 (n3 + 3)], osl (some ⟨b_13, 0, none⟩) (n3 + 3) (n3 + 3) 6 86 ((ownL l3 (Opc.mk 0 71 0 0 0 0)).flatMap opcV), osl (some ⟨b_10, 0, none⟩) (n2 + 3) (n2 + 3) 6 86 ((ownL l2 (Opc.mk 0 71 0 0 0 0)).flatMap opcV), osl (some ⟨b_7, 0, none⟩) (n1 + 3) (n1 + 3) 6 86 ((ownL l1 (Opc.mk 0 71 0 0 0 0)).flatMap opcV), cel b_2 89 [.int .i64 (u.toInt), .int .i64 (v.toInt)], cel b_1 84 [.int .i64 k, .slice a1 n1 c1, .slice a2 n2 c2, .slice a3 n3 c3]]) (V := slV (mapC (chkB k l1 l2 l3) k l1 nn u v)) (A' := fun x => [slR recV 4 23 (mapC (chkB k l1 l2 l3) k l1 nn u v) x]) (C := fun _ => True) Try.call83 (ev3 rfl rfl rfl) (.p .h (.p .h (.p .h (.p .h (.p .h (.p .h (.p .h .nil))))))) (fun w hs => map_c k (some ⟨b_7, 0, none⟩) (some ⟨b_10, 0, none⟩) (some ⟨b_13, 0, none⟩) n1 (n1 + 3) n2 (n2 + 3) n3 (n3 + 3) l1 l2 l3 nn u v w (by omega) ((rdsT' opcV_len (ownL_take' (by omega)) (oslR (.t (.t (.t (.t .h)))))) w hs) (by omega) (by omega) ((rdsT' opcV_len (ownL_take' (by omega)) (oslR (.t (.t (.t .h))))) w hs) (by omega) (by omega) ((rdsT' opcV_len (ownL_take' (by omega)) (oslR (.t (.t .h)))) w hs) (by omega)) ?_
          rintro ⟨a_20, c_21⟩ -
          have hml23 : (mapC (chkB k l1 l2 l3) k l1 nn u v).length ≤ 4 := mapC_len
          refine ⟨.inr (.p (.t (.t .h)) (.p (.t (.t (.t (.t (.t .h))))) .nil)), ?_⟩
          refine anyS_take (i := 8) rfl (by kernel_rfl) (by kernel_rfl) (by kernel_rfl) (by kernel_rfl) (Yq.of (v := .slice a_16 ((mapC (chkB k l1 l2 l3) k l1 nn u v).length) c_17) (y_assign rfl) rfl) (.p (.t (.t .h)) (.p (.t (.t (.t (.t (.t .h))))) .nil)) ?_
          refine anyS_take (i := 9) rfl (by kernel_rfl) (by kernel_rfl) (by kernel_rfl) (by kernel_rfl) (Yq.of (v := .slice a_20 ((mapC (chkB k l1 l2 l3) k l1 nn u v).length) c_21) (y_assign rfl) rfl) (.p (.t (.t .h)) (.p (.t (.t (.t (.t (.t .h))))) .nil)) ?_
          refine anyS_done (by kernel_rfl) ?_
          refine thenS_n ?_
          refine wpS_seq ?_
          refine wpS_lex (by kernel_rfl) (by kernel_rfl) ?_
          refine x_y (v := .agg #[.int .i64 k, .slice (some ⟨b_7, 0, none⟩) n1 (n1 + 3), .slice (some ⟨b_10, 0, none⟩) n2 (n2 + 3), .slice (some ⟨b_13, 0, none⟩) n3 (n3 + 3)]) (y_loadN (vs := [.int .i64 k, .slice (some ⟨b_7, 0, none⟩) n1 (n1 + 3), .slice (some ⟨b_10, 0, none⟩) n2 (n2 + 3), .slice (some ⟨b_13, 0, none⟩) n3 (n3 + 3)]) rfl Try.isAgg84 Try.sizeOf84 (ownN (.t (.t .h)) rfl)) rfl ?_
          refine x_y (v := .int .i64 (nn.toInt)) (y_move rfl) rfl ?_
          refine x_y (v := .pointer (some ⟨b_2, 1, none⟩)) (y_fieldAddr (o' := 1) rfl Try.underlying89 rfl Try.sizeOf2 (by decide) rfl) rfl ?_
          refine x_y (v := .int .i64 (v.toInt)) (y_load1 rfl Try.isAgg2 (own1 (.t (.t (.t (.t (.t (.t .h)))))) rfl)) rfl ?_
          refine x_y (v := .int .i64 (((doneC (chkB k l1 l2 l3) l2 nn v)).toInt)) (y_call (args := #[.agg #[.int .i64 k, .slice (some ⟨b_7, 0, none⟩) n1 (n1 + 3), .slice (some ⟨b_10, 0, none⟩) n2 (n2 + 3), .slice (some ⟨b_13, 0, none⟩) n3 (n3 + 3)], .int .i64 (nn.toInt), .int .i64 (v.toInt)]) (v := .int .i64 (((doneC (chkB k l1 l2 l3) l2 nn v)).toInt)) Try.call85 (ev3 rfl rfl rfl) (fun w hs => fold_c k (some ⟨b_7, 0, none⟩) (some ⟨b_10, 0, none⟩) (some ⟨b_13, 0, none⟩) n1 (n1 + 3) n2 (n2 + 3) n3 (n3 + 3) l1 l2 l3 nn v w (by omega) ((rdsT' opcV_len (ownL_take' (by omega)) (oslR (.t (.t (.t (.t (.t .h))))))) w hs) (by omega) (by omega) ((rdsT' opcV_len (ownL_take' (by omega)) (oslR (.t (.t (.t (.t .h)))))) w hs) (by omega) (by omega) ((rdsT' opcV_len (ownL_take' (by omega)) (oslR (.t (.t (.t .h))))) w hs) (by omega))) rfl ?_
          refine x_y (v := .agg #[.int .i64 k, .slice a1 n1 c1, .slice a2 n2 c2, .slice a3 n3 c3]) (y_loadN (vs := [.int .i64 k, .slice a1 n1 c1, .slice a2 n2 c2, .slice a3 n3 c3]) rfl Try.isAgg84 Try.sizeOf84 (ownN (.t (.t (.t (.t (.t (.t (.t .h))))))) rfl)) rfl ?_
          refine x_y (v := .int .i64 (nn.toInt)) (y_move rfl) rfl ?_
          refine x_y (v := .pointer (some ⟨b_2, 1, none⟩)) (y_fieldAddr (o' := 1) rfl Try.underlying89 rfl Try.sizeOf2 (by decide) rfl) rfl ?_
          refine x_y (v := .int .i64 (v.toInt)) (y_load1 rfl Try.isAgg2 (own1 (.t (.t (.t (.t (.t (.t .h)))))) rfl)) rfl ?_
          refine x_y (v := .int .i64 (((doneC (chkB k l1 l2 l3) l2 nn v)).toInt)) (y_call (args := #[.agg #[.int .i64 k, .slice a1 n1 c1, .slice a2 n2 c2, .slice a3 n3 c3], .int .i64 (nn.toInt), .int .i64 (v.toInt)]) (v := .int .i64 (((doneC (chkB k l1 l2 l3) l2 nn v)).toInt)) Try.call85 (ev3 rfl rfl rfl) (fun w hs => fold_c k a1 a2 a3 n1 c1 n2 c2 n3 c3 l1 l2 l3 nn v w hn1 ((oldR hr1) w hs) (by omega) hn2 ((oldR hr2) w hs) (by omega) hn3 ((oldR hr3) w hs) (by omega))) rfl ?_
          refine x_y (v := .bool (decide ((doneC (chkB k l1 l2 l3) l2 nn v) = (doneC (chkB k l1 l2 l3) l2 nn v)))) (y_eql (a := ((doneC (chkB k l1 l2 l3) l2 nn v)).toInt) (b := ((doneC (chkB k l1 l2 l3) l2 nn v)).toInt) (c := decide ((doneC (chkB k l1 l2 l3) l2 nn v) = (doneC (chkB k l1 l2 l3) l2 nn v))) rfl rfl (i_eql _ _)) rfl ?_
          refine x_y (v := .bool (decide ((doneC (chkB k l1 l2 l3) l2 nn v) = (doneC (chkB k l1 l2 l3) l2 nn v)))) (y_move rfl) rfl ?_
          refine x_gy (y_move rfl) rfl rfl rfl rfl (b' := decide ((doneC (chkB k l1 l2 l3) l2 nn v) = (doneC (chkB k l1 l2 l3) l2 nn v))) rfl (decide_eq_true rfl) ?_
          refine x_gy (y_move rfl) rfl rfl rfl rfl (b' := decide ((doneC (chkB k l1 l2 l3) l2 nn v) = (doneC (chkB k l1 l2 l3) l2 nn v))) rfl (decide_eq_true rfl) ?_
          refine x_gy (y_call (args := #[.slice a_16 ((mapC (chkB k l1 l2 l3) k l1 nn u v).length) c_17, .slice a_20 ((mapC (chkB k l1 l2 l3) k l1 nn u v).length) c_21]) (v := .bool (decide ((mapC (chkB k l1 l2 l3) k l1 nn u v) = (mapC (chkB k l1 l2 l3) k l1 nn u v)))) Try.call77 (ev2 rfl rfl) (fun w hs => plain_c a_16 a_20 ((mapC (chkB k l1 l2 l3) k l1 nn u v).length) c_17 ((mapC (chkB k l1 l2 l3) k l1 nn u v).length) c_21 (mapC (chkB k l1 l2 l3) k l1 nn u v) (mapC (chkB k l1 l2 l3) k l1 nn u v) w rfl rfl (oslR (.t .h) w hs) (oslR .h w hs) (by omega) (by omega))) rfl rfl rfl rfl (b' := decide ((doneC (chkB k l1 l2 l3) l2 nn v) = (doneC (chkB k l1 l2 l3) l2 nn v))) rfl (decide_eq_true rfl) ?_
          refine x_y (v := .bool (decide ((mapC (chkB k l1 l2 l3) k l1 nn u v) = (mapC (chkB k l1 l2 l3) k l1 nn u v)))) (y_pickT (b := decide ((doneC (chkB k l1 l2 l3) l2 nn v) = (doneC (chkB k l1 l2 l3) l2 nn v))) (v := .bool (decide ((mapC (chkB k l1 l2 l3) k l1 nn u v) = (mapC (chkB k l1 l2 l3) k l1 nn u v)))) rfl (decide_eq_true rfl) rfl) rfl ?_
          refine x_y (v := .bool (decide ((mapC (chkB k l1 l2 l3) k l1 nn u v) = (mapC (chkB k l1 l2 l3) k l1 nn u v)))) (y_assign rfl) rfl ?_
          refine x_nil ?_
          refine thenS_n ?_
          refine wpS_seq ?_
          refine wpS_region ?_
          refine s_y (v := .bool true) (y_call (args := #[]) (v := .bool true) Try.call82 ev0 (fun w hs => awake11_c w)) rfl ?_
          refine s_y (v := .bool true) (y_move rfl) rfl ?_
          refine s_gy (y_move rfl) rfl rfl rfl rfl rfl rfl ?_
          refine s_y (v := .bool (decide ((mapC (chkB k l1 l2 l3) k l1 nn u v) = (mapC (chkB k l1 l2 l3) k l1 nn u v)))) (y_pickT (v := .bool (decide ((mapC (chkB k l1 l2 l3) k l1 nn u v) = (mapC (chkB k l1 l2 l3) k l1 nn u v)))) rfl rfl rfl) rfl ?_
          refine s_y (v := .bool (decide ((mapC (chkB k l1 l2 l3) k l1 nn u v) = (mapC (chkB k l1 l2 l3) k l1 nn u v)))) (y_move rfl) rfl ?_
          refine s_gy (y_fieldAddr (o' := 1) rfl Try.underlying84 rfl Try.sizeOf82 (by decide) rfl) rfl rfl rfl rfl (b' := decide ((mapC (chkB k l1 l2 l3) k l1 nn u v) = (mapC (chkB k l1 l2 l3) k l1 nn u v))) rfl (decide_eq_true rfl) ?_
          refine s_gy (y_load1 rfl Try.isAgg82 (own1 (.t (.t .h)) rfl)) rfl rfl rfl rfl (b' := decide ((mapC (chkB k l1 l2 l3) k l1 nn u v) = (mapC (chkB k l1 l2 l3) k l1 nn u v))) rfl (decide_eq_true rfl) ?_
          refine s_gy (y_fieldAddr (o' := 1) rfl Try.underlying84 rfl Try.sizeOf82 (by decide) rfl) rfl rfl rfl rfl (b' := decide ((mapC (chkB k l1 l2 l3) k l1 nn u v) = (mapC (chkB k l1 l2 l3) k l1 nn u v))) rfl (decide_eq_true rfl) ?_
          refine s_gy (y_load1 rfl Try.isAgg82 (own1 (.t (.t (.t (.t (.t (.t (.t .h))))))) rfl)) rfl rfl rfl rfl (b' := decide ((mapC (chkB k l1 l2 l3) k l1 nn u v) = (mapC (chkB k l1 l2 l3) k l1 nn u v))) rfl (decide_eq_true rfl) ?_
          refine s_gy (y_buildL (m := [(1, .int .i64 71)]) (vs := #[.int .i64 0, .int .i64 71, .int .i64 0, .int .i64 0, .int .i64 0, .int .i64 0]) (evc rfl evn) (fun w => by kernel_rfl)) rfl rfl rfl rfl (b' := decide ((mapC (chkB k l1 l2 l3) k l1 nn u v) = (mapC (chkB k l1 l2 l3) k l1 nn u v))) rfl (decide_eq_true rfl) ?_
          refine s_gy (y_call (args := #[.slice (some ⟨b_7, 0, none⟩) n1 (n1 + 3), .slice a1 n1 c1, .agg #[.int .i64 0, .int .i64 71, .int .i64 0, .int .i64 0, .int .i64 0, .int .i64 0]]) (v := .bool true) Try.call88 (ev3 rfl rfl rfl) (fun w hs => keptO_c b_7 a1 n1 c1 l1 (Opc.mk 0 71 0 0 0 0) w hn1 ((oldR hr1) w hs) (by omega) (oslR (.t (.t (.t (.t (.t .h))))) w hs))) rfl rfl rfl rfl (b' := decide ((mapC (chkB k l1 l2 l3) k l1 nn u v) = (mapC (chkB k l1 l2 l3) k l1 nn u v))) rfl (decide_eq_true rfl) ?_
          refine s_y (v := .bool true) (y_pickT (b := decide ((mapC (chkB k l1 l2 l3) k l1 nn u v) = (mapC (chkB k l1 l2 l3) k l1 nn u v))) (v := .bool true) rfl (decide_eq_true rfl) rfl) rfl ?_
          refine s_y (v := .bool true) (y_move rfl) rfl ?_
          refine s_gy (y_fieldAddr (o' := 2) rfl Try.underlying84 rfl Try.sizeOf82 (by decide) rfl) rfl rfl rfl rfl rfl rfl ?_
          refine s_gy (y_load1 rfl Try.isAgg82 (own1 (.t (.t .h)) rfl)) rfl rfl rfl rfl rfl rfl ?_
          refine s_gy (y_fieldAddr (o' := 2) rfl Try.underlying84 rfl Try.sizeOf82 (by decide) rfl) rfl rfl rfl rfl rfl rfl ?_
          refine s_gy (y_load1 rfl Try.isAgg82 (own1 (.t (.t (.t (.t (.t (.t (.t .h))))))) rfl)) rfl rfl rfl rfl rfl rfl ?_
          refine s_gy (y_buildL (m := [(1, .int .i64 71)]) (vs := #[.int .i64 0, .int .i64 71, .int .i64 0, .int .i64 0, .int .i64 0, .int .i64 0]) (evc rfl evn) (fun w => by kernel_rfl)) rfl rfl rfl rfl rfl rfl ?_
          refine s_gy (y_call (args := #[.slice (some ⟨b_10, 0, none⟩) n2 (n2 + 3), .slice a2 n2 c2, .agg #[.int .i64 0, .int .i64 71, .int .i64 0, .int .i64 0, .int .i64 0, .int .i64 0]]) (v := .bool true) Try.call88 (ev3 rfl rfl rfl) (fun w hs => keptO_c b_10 a2 n2 c2 l2 (Opc.mk 0 71 0 0 0 0) w hn2 ((oldR hr2) w hs) (by omega) (oslR (.t (.t (.t (.t .h)))) w hs))) rfl rfl rfl rfl rfl rfl ?_
          refine s_y (v := .bool true) (y_pickT (v := .bool true) rfl rfl rfl) rfl ?_
          refine s_y (v := .bool true) (y_move rfl) rfl ?_
          refine s_gy (y_fieldAddr (o' := 3) rfl Try.underlying84 rfl Try.sizeOf82 (by decide) rfl) rfl rfl rfl rfl rfl rfl ?_
          refine s_gy (y_load1 rfl Try.isAgg82 (own1 (.t (.t .h)) rfl)) rfl rfl rfl rfl rfl rfl ?_
          refine s_gy (y_fieldAddr (o' := 3) rfl Try.underlying84 rfl Try.sizeOf82 (by decide) rfl) rfl rfl rfl rfl rfl rfl ?_
          refine s_gy (y_load1 rfl Try.isAgg82 (own1 (.t (.t (.t (.t (.t (.t (.t .h))))))) rfl)) rfl rfl rfl rfl rfl rfl ?_
          refine s_gy (y_buildL (m := [(1, .int .i64 71)]) (vs := #[.int .i64 0, .int .i64 71, .int .i64 0, .int .i64 0, .int .i64 0, .int .i64 0]) (evc rfl evn) (fun w => by kernel_rfl)) rfl rfl rfl rfl rfl rfl ?_
          refine s_gy (y_call (args := #[.slice (some ⟨b_13, 0, none⟩) n3 (n3 + 3), .slice a3 n3 c3, .agg #[.int .i64 0, .int .i64 71, .int .i64 0, .int .i64 0, .int .i64 0, .int .i64 0]]) (v := .bool true) Try.call88 (ev3 rfl rfl rfl) (fun w hs => keptO_c b_13 a3 n3 c3 l3 (Opc.mk 0 71 0 0 0 0) w hn3 ((oldR hr3) w hs) (by omega) (oslR (.t (.t (.t .h))) w hs))) rfl rfl rfl rfl rfl rfl ?_
          refine s_y (v := .bool true) (y_pickT (v := .bool true) rfl rfl rfl) rfl ?_
          refine s_y (v := .bool true) (y_assign rfl) rfl ?_
          refine wpL_nil ?_
          refine thenS_n ?_
          refine wpS_ret ?_
          refine fin1 (v := .bool true) (.inr rfl) (.nil) Try.results21 rfl ?_
          exact fun w' hs => ⟨rfl, hs⟩
        · -- number 15 first
          refine opS_0 rfl rfl ?_
          refine e_alloc (l := [.int .i64 0, .slice none 0 0, .slice none 0 0, .slice none 0 0]) Try.zeroValue84 rfl ?_
          intro b_24
          refine ⟨.inr (.p (.t (.t (.t (.t .h)))) .nil), ?_⟩
          refine anyS_all (rs := [13]) (by kernel_rfl) (by simp) ?_
          intro i hi; obtain rfl := List.mem_singleton.1 hi; clear hi
          refine opS_0 rfl rfl ?_
          refine e_call (f := 87) (args := #[.slice a3 n3 c3, .agg #[.int .i64 0, .int .i64 71, .int .i64 0, .int .i64 0, .int .i64 0, .int .i64 0]]) (X := Nat) (A := []) (M := [cel b_24 84 [.int .i64 0, .slice none 0 0, .slice none 0 0, .slice none 0 0], osl (some ⟨b_10, 0, none⟩) (n2 + 3) (n2 + 3) 6 86 ((ownL l2 (Opc.mk 0 71 0 0 0 0)).flatMap opcV), osl (some ⟨b_7, 0, none⟩) (n1 + 3) (n1 + 3) 6 86 ((ownL l1 (Opc.mk 0 71 0 0 0 0)).flatMap opcV), cel b_2 89 [.int .i64 (u.toInt), .int .i64 (v.toInt)], cel b_1 84 [.int .i64 k, .slice a1 n1 c1, .slice a2 n2 c2, .slice a3 n3 c3]]) (V := fun b => .slice (some ⟨b, 0, none⟩) n3 (n3 + 3)) (A' := fun b => [osl (some ⟨b, 0, none⟩) (n3 + 3) (n3 + 3) 6 86 ((ownL l3 (Opc.mk 0 71 0 0 0 0)).flatMap opcV)]) (C := fun _ => True) Try.call87 (ev2 rfl rfl) (.p .h (.p .h (.p .h (.p .h (.p .h .nil))))) (fun w hs => ownO_c a3 n3 c3 l3 (Opc.mk 0 71 0 0 0 0) w hn3 ((oldR hr3) w hs) (by omega)) ?_
          rintro b_25 -
          refine ⟨.inr (.p (.t (.t (.t (.t (.t .h))))) .nil), ?_⟩
          refine anyS_take (i := 14) rfl (by kernel_rfl) (by kernel_rfl) (by kernel_rfl) (by kernel_rfl) (Yq.of (v := .agg #[.int .i64 k, .slice (some ⟨b_7, 0, none⟩) n1 (n1 + 3), .slice (some ⟨b_10, 0, none⟩) n2 (n2 + 3), .slice (some ⟨b_25, 0, none⟩) n3 (n3 + 3)]) (y_buildL (m := [(0, .int .i64 k), (1, .slice (some ⟨b_7, 0, none⟩) n1 (n1 + 3)), (2, .slice (some ⟨b_10, 0, none⟩) n2 (n2 + 3)), (3, .slice (some ⟨b_25, 0, none⟩) n3 (n3 + 3))]) (vs := #[.int .i64 k, .slice (some ⟨b_7, 0, none⟩) n1 (n1 + 3), .slice (some ⟨b_10, 0, none⟩) n2 (n2 + 3), .slice (some ⟨b_25, 0, none⟩) n3 (n3 + 3)]) (evc rfl (evc rfl (evc rfl (evc rfl evn)))) (fun w => by kernel_rfl)) rfl) (.p (.t (.t (.t (.t (.t .h))))) .nil) ?_
          refine anyS_all (rs := [16]) (by kernel_rfl) (by simp) ?_
          intro i hi; obtain rfl := List.mem_singleton.1 hi; clear hi
          refine opS_0 rfl rfl ?_
          refine e_store (vs := [.int .i64 k, .slice (some ⟨b_7, 0, none⟩) n1 (n1 + 3), .slice (some ⟨b_10, 0, none⟩) n2 (n2 + 3), .slice (some ⟨b_25, 0, none⟩) n3 (n3 + 3)]) (l' := [.int .i64 k, .slice (some ⟨b_7, 0, none⟩) n1 (n1 + 3), .slice (some ⟨b_10, 0, none⟩) n2 (n2 + 3), .slice (some ⟨b_25, 0, none⟩) n3 (n3 + 3)]) rfl rfl rfl rfl Try.sizeOf84 (.t .h) (Nat.le_of_ble_eq_true rfl) rfl ?_
          refine ⟨.inr (.p (.t (.t (.t (.t (.t .h))))) .nil), ?_⟩
          refine anyS_done (by kernel_rfl) ?_
          refine thenS_n ?_
          refine wpS_seq ?_
          refine wpS_anyL [cel b_24 84 [.int .i64 k, .slice (some ⟨b_7, 0, none⟩) n1 (n1 + 3), .slice (some ⟨b_10, 0, none⟩) n2 (n2 + 3), .slice (some ⟨b_25, 0, none⟩) n3 (n3 + 3)], cel b_2 89 [.int .i64 (u.toInt), .int .i64 (v.toInt)]] [] (by kernel_rfl) ?_
          refine anyS_take (i := 0) rfl (by kernel_rfl) (by kernel_rfl) (by kernel_rfl) (by kernel_rfl) (Yq.of (v := .agg #[.int .i64 k, .slice (some ⟨b_7, 0, none⟩) n1 (n1 + 3), .slice (some ⟨b_10, 0, none⟩) n2 (n2 + 3), .slice (some ⟨b_25, 0, none⟩) n3 (n3 + 3)]) (y_loadN (vs := [.int .i64 k, .slice (some ⟨b_7, 0, none⟩) n1 (n1 + 3), .slice (some ⟨b_10, 0, none⟩) n2 (n2 + 3), .slice (some ⟨b_25, 0, none⟩) n3 (n3 + 3)]) rfl Try.isAgg84 Try.sizeOf84 (ownN .h rfl)) rfl) (.p .h (.p (.t (.t (.t .h))) .nil)) ?_
          refine anyS_take (i := 1) rfl (by kernel_rfl) (by kernel_rfl) (by kernel_rfl) (by kernel_rfl) (Yq.of (v := .int .i64 (nn.toInt)) (y_move rfl) rfl) (.p .h (.p (.t (.t (.t .h))) .nil)) ?_
          refine anyS_take (i := 2) rfl (by kernel_rfl) (by kernel_rfl) (by kernel_rfl) (by kernel_rfl) (Yq.of (v := .agg #[.int .i64 (u.toInt), .int .i64 (v.toInt)]) (y_loadN (vs := [.int .i64 (u.toInt), .int .i64 (v.toInt)]) rfl Try.isAgg89 Try.sizeOf89 (ownN (.t .h) rfl)) rfl) (.p .h (.p (.t (.t (.t .h))) .nil)) ?_
          refine anyS_take (i := 4) rfl (by kernel_rfl) (by kernel_rfl) (by kernel_rfl) (by kernel_rfl) (Yq.of (v := .agg #[.int .i64 k, .slice (some ⟨b_7, 0, none⟩) n1 (n1 + 3), .slice (some ⟨b_10, 0, none⟩) n2 (n2 + 3), .slice (some ⟨b_25, 0, none⟩) n3 (n3 + 3)]) (y_loadN (vs := [.int .i64 k, .slice (some ⟨b_7, 0, none⟩) n1 (n1 + 3), .slice (some ⟨b_10, 0, none⟩) n2 (n2 + 3), .slice (some ⟨b_25, 0, none⟩) n3 (n3 + 3)]) rfl Try.isAgg84 Try.sizeOf84 (ownN .h rfl)) rfl) (.p .h (.p (.t (.t (.t .h))) .nil)) ?_
          refine anyS_take (i := 5) rfl (by kernel_rfl) (by kernel_rfl) (by kernel_rfl) (by kernel_rfl) (Yq.of (v := .int .i64 (nn.toInt)) (y_move rfl) rfl) (.p .h (.p (.t (.t (.t .h))) .nil)) ?_
          refine anyS_take (i := 6) rfl (by kernel_rfl) (by kernel_rfl) (by kernel_rfl) (by kernel_rfl) (Yq.of (v := .agg #[.int .i64 (u.toInt), .int .i64 (v.toInt)]) (y_loadN (vs := [.int .i64 (u.toInt), .int .i64 (v.toInt)]) rfl Try.isAgg89 Try.sizeOf89 (ownN (.t .h) rfl)) rfl) (.p .h (.p (.t (.t (.t .h))) .nil)) ?_
          refine anyS_all (rs := [3]) (by kernel_rfl) (by simp) ?_
          intro i hi; obtain rfl := List.mem_singleton.1 hi; clear hi
          refine opS_0 rfl rfl ?_
          refine e_call (f := 83) (args := #[.agg #[.int .i64 k, .slice (some ⟨b_7, 0, none⟩) n1 (n1 + 3), .slice (some ⟨b_10, 0, none⟩) n2 (n2 + 3), .slice (some ⟨b_25, 0, none⟩) n3 (n3 + 3)], .int .i64 (nn.toInt), .agg #[.int .i64 (u.toInt), .int .i64 (v.toInt)]]) (X := Option Addr × Nat) (A := []) (M := [cel b_24 84 [.int .i64 k, .slice (some ⟨b_7, 0, none⟩) n1 (n1 + 3), .slice (some ⟨b_10, 0, none⟩) n2 (n2 + 3), .slice (some ⟨b_25, 0, none⟩) n3 (n3 + 3)], osl (some ⟨b_25, 0, none⟩) (n3 + 3) (n3 + 3) 6 86 ((ownL l3 (Opc.mk 0 71 0 0 0 0)).flatMap opcV), osl (some ⟨b_10, 0, none⟩) (n2 + 3) (n2 + 3) 6 86 ((ownL l2 (Opc.mk 0 71 0 0 0 0)).flatMap opcV), osl (some ⟨b_7, 0, none⟩) (n1 + 3) (n1 + 3) 6 86 ((ownL l1 (Opc.mk 0 71 0 0 0 0)).flatMap opcV), cel b_2 89 [.int .i64 (u.toInt), .int .i64 (v.toInt)], cel b_1 84 [.int .i64 k, .slice a1 n1 c1, .slice a2 n2 c2, .slice a3 n3 c3]]) (V := slV (mapC (chkB k l1 l2 l3) k l1 nn u v)) (A' := fun x => [slR recV 4 23 (mapC (chkB k l1 l2 l3) k l1 nn u v) x]) (C := fun _ => True) Try.call83 (ev3 rfl rfl rfl) (.p .h (.p .h (.p .h (.p .h (.p .h (.p .h .nil)))))) (fun w hs => map_c k (some ⟨b_7, 0, none⟩) (some ⟨b_10, 0, none⟩) (some ⟨b_25, 0, none⟩) n1 (n1 + 3) n2 (n2 + 3) n3 (n3 + 3) l1 l2 l3 nn u v w (by omega) ((rdsT' opcV_len (ownL_take' (by omega)) (oslR (.t (.t (.t .h))))) w hs) (by omega) (by omega) ((rdsT' opcV_len (ownL_take' (by omega)) (oslR (.t (.t .h)))) w hs) (by omega) (by omega) ((rdsT' opcV_len (ownL_take' (by omega)) (oslR (.t .h))) w hs) (by omega)) ?_
          rintro ⟨a_27, c_28⟩ -
          have hml30 : (mapC (chkB k l1 l2 l3) k l1 nn u v).length ≤ 4 := mapC_len
          refine ⟨.inr (.p (.t .h) (.p (.t (.t (.t (.t .h)))) .nil)), ?_⟩
          refine anyS_all (rs := [7]) (by kernel_rfl) (by simp) ?_
          intro i hi; obtain rfl := List.mem_singleton.1 hi; clear hi
          refine opS_0 rfl rfl ?_
          refine e_call (f := 83) (args := #[.agg #[.int .i64 k, .slice (some ⟨b_7, 0, none⟩) n1 (n1 + 3), .slice (some ⟨b_10, 0, none⟩) n2 (n2 + 3), .slice (some ⟨b_25, 0, none⟩) n3 (n3 + 3)], .int .i64 (nn.toInt), .agg #[.int .i64 (u.toInt), .int .i64 (v.toInt)]]) (X := Option Addr × Nat) (A := []) (M := [osl a_27 c_28 ((mapC (chkB k l1 l2 l3) k l1 nn u v).length) 4 23 ((mapC (chkB k l1 l2 l3) k l1 nn u v).flatMap recV), cel b_24 84 [.int .i64 k, .slice (some ⟨b_7, 0, none⟩) n1 (n1 + 3), .slice (some ⟨b_10, 0, none⟩) n2 (n2 + 3), .slice (some ⟨b_25, 0, none⟩) n3 (n3 + 3)], osl (some ⟨b_25, 0, none⟩) (n3 + 3) (n3 + 3) 6 86 ((ownL l3 (Opc.mk 0 71 0 0 0 0)).flatMap opcV), osl (some ⟨b_10, 0, none⟩) (n2 + 3) (n2 + 3) 6 86 ((ownL l2 (Opc.mk 0 71 0 0 0 0)).flatMap opcV), osl (some ⟨b_7, 0, none⟩) (n1 + 3) (n1 + 3) 6 86 ((ownL l1 (Opc.mk 0 71 0 0 0 0)).flatMap opcV), cel b_2 89 [.int .i64 (u.toInt), .int .i64 (v.toInt)], cel b_1 84 [.int .i64 k, .slice a1 n1 c1, .slice a2 n2 c2, .slice a3 n3 c3]]) (V := slV (mapC (chkB k l1 l2 l3) k l1 nn u v)) (A' := fun x => [slR recV 4 23 (mapC (chkB k l1 l2 l3) k l1 nn u v) x]) (C := fun _ => True) Try.call83 (ev3 rfl rfl rfl) (.p .h (.p .h (.p .h (.p .h (.p .h (.p .h (.p .h .nil))))))) (fun w hs => map_c k (some ⟨b_7, 0, none⟩) (some ⟨b_10, 0, none⟩) (some ⟨b_25, 0, none⟩) n1 (n1 + 3) n2 (n2 + 3) n3 (n3 + 3) l1 l2 l3 nn u v w (by omega) ((rdsT' opcV_len (ownL_take' (by omega)) (oslR (.t (.t (.t (.t .h)))))) w hs) (by omega) (by omega) ((rdsT' opcV_len (ownL_take' (by omega)) (oslR (.t (.t (.t .h))))) w hs) (by omega) (by omega) ((rdsT' opcV_len (ownL_take' (by omega)) (oslR (.t (.t .h)))) w hs) (by omega)) ?_
          rintro ⟨a_31, c_32⟩ -
          have hml34 : (mapC (chkB k l1 l2 l3) k l1 nn u v).length ≤ 4 := mapC_len
          refine ⟨.inr (.p (.t (.t .h)) (.p (.t (.t (.t (.t (.t .h))))) .nil)), ?_⟩
          refine anyS_take (i := 8) rfl (by kernel_rfl) (by kernel_rfl) (by kernel_rfl) (by kernel_rfl) (Yq.of (v := .slice a_27 ((mapC (chkB k l1 l2 l3) k l1 nn u v).length) c_28) (y_assign rfl) rfl) (.p (.t (.t .h)) (.p (.t (.t (.t (.t (.t .h))))) .nil)) ?_
          refine anyS_take (i := 9) rfl (by kernel_rfl) (by kernel_rfl) (by kernel_rfl) (by kernel_rfl) (Yq.of (v := .slice a_31 ((mapC (chkB k l1 l2 l3) k l1 nn u v).length) c_32) (y_assign rfl) rfl) (.p (.t (.t .h)) (.p (.t (.t (.t (.t (.t .h))))) .nil)) ?_
          refine anyS_done (by kernel_rfl) ?_
          refine thenS_n ?_
          refine wpS_seq ?_
          refine wpS_lex (by kernel_rfl) (by kernel_rfl) ?_
          refine x_y (v := .agg #[.int .i64 k, .slice (some ⟨b_7, 0, none⟩) n1 (n1 + 3), .slice (some ⟨b_10, 0, none⟩) n2 (n2 + 3), .slice (some ⟨b_25, 0, none⟩) n3 (n3 + 3)]) (y_loadN (vs := [.int .i64 k, .slice (some ⟨b_7, 0, none⟩) n1 (n1 + 3), .slice (some ⟨b_10, 0, none⟩) n2 (n2 + 3), .slice (some ⟨b_25, 0, none⟩) n3 (n3 + 3)]) rfl Try.isAgg84 Try.sizeOf84 (ownN (.t (.t .h)) rfl)) rfl ?_
          refine x_y (v := .int .i64 (nn.toInt)) (y_move rfl) rfl ?_
          refine x_y (v := .pointer (some ⟨b_2, 1, none⟩)) (y_fieldAddr (o' := 1) rfl Try.underlying89 rfl Try.sizeOf2 (by decide) rfl) rfl ?_
          refine x_y (v := .int .i64 (v.toInt)) (y_load1 rfl Try.isAgg2 (own1 (.t (.t (.t (.t (.t (.t .h)))))) rfl)) rfl ?_
          refine x_y (v := .int .i64 (((doneC (chkB k l1 l2 l3) l2 nn v)).toInt)) (y_call (args := #[.agg #[.int .i64 k, .slice (some ⟨b_7, 0, none⟩) n1 (n1 + 3), .slice (some ⟨b_10, 0, none⟩) n2 (n2 + 3), .slice (some ⟨b_25, 0, none⟩) n3 (n3 + 3)], .int .i64 (nn.toInt), .int .i64 (v.toInt)]) (v := .int .i64 (((doneC (chkB k l1 l2 l3) l2 nn v)).toInt)) Try.call85 (ev3 rfl rfl rfl) (fun w hs => fold_c k (some ⟨b_7, 0, none⟩) (some ⟨b_10, 0, none⟩) (some ⟨b_25, 0, none⟩) n1 (n1 + 3) n2 (n2 + 3) n3 (n3 + 3) l1 l2 l3 nn v w (by omega) ((rdsT' opcV_len (ownL_take' (by omega)) (oslR (.t (.t (.t (.t (.t .h))))))) w hs) (by omega) (by omega) ((rdsT' opcV_len (ownL_take' (by omega)) (oslR (.t (.t (.t (.t .h)))))) w hs) (by omega) (by omega) ((rdsT' opcV_len (ownL_take' (by omega)) (oslR (.t (.t (.t .h))))) w hs) (by omega))) rfl ?_
          refine x_y (v := .agg #[.int .i64 k, .slice a1 n1 c1, .slice a2 n2 c2, .slice a3 n3 c3]) (y_loadN (vs := [.int .i64 k, .slice a1 n1 c1, .slice a2 n2 c2, .slice a3 n3 c3]) rfl Try.isAgg84 Try.sizeOf84 (ownN (.t (.t (.t (.t (.t (.t (.t .h))))))) rfl)) rfl ?_
          refine x_y (v := .int .i64 (nn.toInt)) (y_move rfl) rfl ?_
          refine x_y (v := .pointer (some ⟨b_2, 1, none⟩)) (y_fieldAddr (o' := 1) rfl Try.underlying89 rfl Try.sizeOf2 (by decide) rfl) rfl ?_
          refine x_y (v := .int .i64 (v.toInt)) (y_load1 rfl Try.isAgg2 (own1 (.t (.t (.t (.t (.t (.t .h)))))) rfl)) rfl ?_
          refine x_y (v := .int .i64 (((doneC (chkB k l1 l2 l3) l2 nn v)).toInt)) (y_call (args := #[.agg #[.int .i64 k, .slice a1 n1 c1, .slice a2 n2 c2, .slice a3 n3 c3], .int .i64 (nn.toInt), .int .i64 (v.toInt)]) (v := .int .i64 (((doneC (chkB k l1 l2 l3) l2 nn v)).toInt)) Try.call85 (ev3 rfl rfl rfl) (fun w hs => fold_c k a1 a2 a3 n1 c1 n2 c2 n3 c3 l1 l2 l3 nn v w hn1 ((oldR hr1) w hs) (by omega) hn2 ((oldR hr2) w hs) (by omega) hn3 ((oldR hr3) w hs) (by omega))) rfl ?_
          refine x_y (v := .bool (decide ((doneC (chkB k l1 l2 l3) l2 nn v) = (doneC (chkB k l1 l2 l3) l2 nn v)))) (y_eql (a := ((doneC (chkB k l1 l2 l3) l2 nn v)).toInt) (b := ((doneC (chkB k l1 l2 l3) l2 nn v)).toInt) (c := decide ((doneC (chkB k l1 l2 l3) l2 nn v) = (doneC (chkB k l1 l2 l3) l2 nn v))) rfl rfl (i_eql _ _)) rfl ?_
          refine x_y (v := .bool (decide ((doneC (chkB k l1 l2 l3) l2 nn v) = (doneC (chkB k l1 l2 l3) l2 nn v)))) (y_move rfl) rfl ?_
          refine x_gy (y_move rfl) rfl rfl rfl rfl (b' := decide ((doneC (chkB k l1 l2 l3) l2 nn v) = (doneC (chkB k l1 l2 l3) l2 nn v))) rfl (decide_eq_true rfl) ?_
          refine x_gy (y_move rfl) rfl rfl rfl rfl (b' := decide ((doneC (chkB k l1 l2 l3) l2 nn v) = (doneC (chkB k l1 l2 l3) l2 nn v))) rfl (decide_eq_true rfl) ?_
          refine x_gy (y_call (args := #[.slice a_27 ((mapC (chkB k l1 l2 l3) k l1 nn u v).length) c_28, .slice a_31 ((mapC (chkB k l1 l2 l3) k l1 nn u v).length) c_32]) (v := .bool (decide ((mapC (chkB k l1 l2 l3) k l1 nn u v) = (mapC (chkB k l1 l2 l3) k l1 nn u v)))) Try.call77 (ev2 rfl rfl) (fun w hs => plain_c a_27 a_31 ((mapC (chkB k l1 l2 l3) k l1 nn u v).length) c_28 ((mapC (chkB k l1 l2 l3) k l1 nn u v).length) c_32 (mapC (chkB k l1 l2 l3) k l1 nn u v) (mapC (chkB k l1 l2 l3) k l1 nn u v) w rfl rfl (oslR (.t .h) w hs) (oslR .h w hs) (by omega) (by omega))) rfl rfl rfl rfl (b' := decide ((doneC (chkB k l1 l2 l3) l2 nn v) = (doneC (chkB k l1 l2 l3) l2 nn v))) rfl (decide_eq_true rfl) ?_
          refine x_y (v := .bool (decide ((mapC (chkB k l1 l2 l3) k l1 nn u v) = (mapC (chkB k l1 l2 l3) k l1 nn u v)))) (y_pickT (b := decide ((doneC (chkB k l1 l2 l3) l2 nn v) = (doneC (chkB k l1 l2 l3) l2 nn v))) (v := .bool (decide ((mapC (chkB k l1 l2 l3) k l1 nn u v) = (mapC (chkB k l1 l2 l3) k l1 nn u v)))) rfl (decide_eq_true rfl) rfl) rfl ?_
          refine x_y (v := .bool (decide ((mapC (chkB k l1 l2 l3) k l1 nn u v) = (mapC (chkB k l1 l2 l3) k l1 nn u v)))) (y_assign rfl) rfl ?_
          refine x_nil ?_
          refine thenS_n ?_
          refine wpS_seq ?_
          refine wpS_region ?_
          refine s_y (v := .bool true) (y_call (args := #[]) (v := .bool true) Try.call82 ev0 (fun w hs => awake11_c w)) rfl ?_
          refine s_y (v := .bool true) (y_move rfl) rfl ?_
          refine s_gy (y_move rfl) rfl rfl rfl rfl rfl rfl ?_
          refine s_y (v := .bool (decide ((mapC (chkB k l1 l2 l3) k l1 nn u v) = (mapC (chkB k l1 l2 l3) k l1 nn u v)))) (y_pickT (v := .bool (decide ((mapC (chkB k l1 l2 l3) k l1 nn u v) = (mapC (chkB k l1 l2 l3) k l1 nn u v)))) rfl rfl rfl) rfl ?_
          refine s_y (v := .bool (decide ((mapC (chkB k l1 l2 l3) k l1 nn u v) = (mapC (chkB k l1 l2 l3) k l1 nn u v)))) (y_move rfl) rfl ?_
          refine s_gy (y_fieldAddr (o' := 1) rfl Try.underlying84 rfl Try.sizeOf82 (by decide) rfl) rfl rfl rfl rfl (b' := decide ((mapC (chkB k l1 l2 l3) k l1 nn u v) = (mapC (chkB k l1 l2 l3) k l1 nn u v))) rfl (decide_eq_true rfl) ?_
          refine s_gy (y_load1 rfl Try.isAgg82 (own1 (.t (.t .h)) rfl)) rfl rfl rfl rfl (b' := decide ((mapC (chkB k l1 l2 l3) k l1 nn u v) = (mapC (chkB k l1 l2 l3) k l1 nn u v))) rfl (decide_eq_true rfl) ?_
          refine s_gy (y_fieldAddr (o' := 1) rfl Try.underlying84 rfl Try.sizeOf82 (by decide) rfl) rfl rfl rfl rfl (b' := decide ((mapC (chkB k l1 l2 l3) k l1 nn u v) = (mapC (chkB k l1 l2 l3) k l1 nn u v))) rfl (decide_eq_true rfl) ?_
          refine s_gy (y_load1 rfl Try.isAgg82 (own1 (.t (.t (.t (.t (.t (.t (.t .h))))))) rfl)) rfl rfl rfl rfl (b' := decide ((mapC (chkB k l1 l2 l3) k l1 nn u v) = (mapC (chkB k l1 l2 l3) k l1 nn u v))) rfl (decide_eq_true rfl) ?_
          refine s_gy (y_buildL (m := [(1, .int .i64 71)]) (vs := #[.int .i64 0, .int .i64 71, .int .i64 0, .int .i64 0, .int .i64 0, .int .i64 0]) (evc rfl evn) (fun w => by kernel_rfl)) rfl rfl rfl rfl (b' := decide ((mapC (chkB k l1 l2 l3) k l1 nn u v) = (mapC (chkB k l1 l2 l3) k l1 nn u v))) rfl (decide_eq_true rfl) ?_
          refine s_gy (y_call (args := #[.slice (some ⟨b_7, 0, none⟩) n1 (n1 + 3), .slice a1 n1 c1, .agg #[.int .i64 0, .int .i64 71, .int .i64 0, .int .i64 0, .int .i64 0, .int .i64 0]]) (v := .bool true) Try.call88 (ev3 rfl rfl rfl) (fun w hs => keptO_c b_7 a1 n1 c1 l1 (Opc.mk 0 71 0 0 0 0) w hn1 ((oldR hr1) w hs) (by omega) (oslR (.t (.t (.t (.t (.t .h))))) w hs))) rfl rfl rfl rfl (b' := decide ((mapC (chkB k l1 l2 l3) k l1 nn u v) = (mapC (chkB k l1 l2 l3) k l1 nn u v))) rfl (decide_eq_true rfl) ?_
          refine s_y (v := .bool true) (y_pickT (b := decide ((mapC (chkB k l1 l2 l3) k l1 nn u v) = (mapC (chkB k l1 l2 l3) k l1 nn u v))) (v := .bool true) rfl (decide_eq_true rfl) rfl) rfl ?_
          refine s_y (v := .bool true) (y_move rfl) rfl ?_
          refine s_gy (y_fieldAddr (o' := 2) rfl Try.underlying84 rfl Try.sizeOf82 (by decide) rfl) rfl rfl rfl rfl rfl rfl ?_
          refine s_gy (y_load1 rfl Try.isAgg82 (own1 (.t (.t .h)) rfl)) rfl rfl rfl rfl rfl rfl ?_
          refine s_gy (y_fieldAddr (o' := 2) rfl Try.underlying84 rfl Try.sizeOf82 (by decide) rfl) rfl rfl rfl rfl rfl rfl ?_
          refine s_gy (y_load1 rfl Try.isAgg82 (own1 (.t (.t (.t (.t (.t (.t (.t .h))))))) rfl)) rfl rfl rfl rfl rfl rfl ?_
          refine s_gy (y_buildL (m := [(1, .int .i64 71)]) (vs := #[.int .i64 0, .int .i64 71, .int .i64 0, .int .i64 0, .int .i64 0, .int .i64 0]) (evc rfl evn) (fun w => by kernel_rfl)) rfl rfl rfl rfl rfl rfl ?_
          refine s_gy (y_call (args := #[.slice (some ⟨b_10, 0, none⟩) n2 (n2 + 3), .slice a2 n2 c2, .agg #[.int .i64 0, .int .i64 71, .int .i64 0, .int .i64 0, .int .i64 0, .int .i64 0]]) (v := .bool true) Try.call88 (ev3 rfl rfl rfl) (fun w hs => keptO_c b_10 a2 n2 c2 l2 (Opc.mk 0 71 0 0 0 0) w hn2 ((oldR hr2) w hs) (by omega) (oslR (.t (.t (.t (.t .h)))) w hs))) rfl rfl rfl rfl rfl rfl ?_
          refine s_y (v := .bool true) (y_pickT (v := .bool true) rfl rfl rfl) rfl ?_
          refine s_y (v := .bool true) (y_move rfl) rfl ?_
          refine s_gy (y_fieldAddr (o' := 3) rfl Try.underlying84 rfl Try.sizeOf82 (by decide) rfl) rfl rfl rfl rfl rfl rfl ?_
          refine s_gy (y_load1 rfl Try.isAgg82 (own1 (.t (.t .h)) rfl)) rfl rfl rfl rfl rfl rfl ?_
          refine s_gy (y_fieldAddr (o' := 3) rfl Try.underlying84 rfl Try.sizeOf82 (by decide) rfl) rfl rfl rfl rfl rfl rfl ?_
          refine s_gy (y_load1 rfl Try.isAgg82 (own1 (.t (.t (.t (.t (.t (.t (.t .h))))))) rfl)) rfl rfl rfl rfl rfl rfl ?_
          refine s_gy (y_buildL (m := [(1, .int .i64 71)]) (vs := #[.int .i64 0, .int .i64 71, .int .i64 0, .int .i64 0, .int .i64 0, .int .i64 0]) (evc rfl evn) (fun w => by kernel_rfl)) rfl rfl rfl rfl rfl rfl ?_
          refine s_gy (y_call (args := #[.slice (some ⟨b_25, 0, none⟩) n3 (n3 + 3), .slice a3 n3 c3, .agg #[.int .i64 0, .int .i64 71, .int .i64 0, .int .i64 0, .int .i64 0, .int .i64 0]]) (v := .bool true) Try.call88 (ev3 rfl rfl rfl) (fun w hs => keptO_c b_25 a3 n3 c3 l3 (Opc.mk 0 71 0 0 0 0) w hn3 ((oldR hr3) w hs) (by omega) (oslR (.t (.t (.t .h))) w hs))) rfl rfl rfl rfl rfl rfl ?_
          refine s_y (v := .bool true) (y_pickT (v := .bool true) rfl rfl rfl) rfl ?_
          refine s_y (v := .bool true) (y_assign rfl) rfl ?_
          refine wpL_nil ?_
          refine thenS_n ?_
          refine wpS_ret ?_
          refine fin1 (v := .bool true) (.inr rfl) (.nil) Try.results21 rfl ?_
          exact fun w' hs => ⟨rfl, hs⟩
      · -- number 15 first
        refine opS_0 rfl rfl ?_
        refine e_alloc (l := [.int .i64 0, .slice none 0 0, .slice none 0 0, .slice none 0 0]) Try.zeroValue84 rfl ?_
        intro b_35
        refine ⟨.inr (.p (.t (.t (.t .h))) .nil), ?_⟩
        refine anyS_all (rs := [9]) (by kernel_rfl) (by simp) ?_
        intro i hi; obtain rfl := List.mem_singleton.1 hi; clear hi
        refine opS_0 rfl rfl ?_
        refine e_call (f := 87) (args := #[.slice a2 n2 c2, .agg #[.int .i64 0, .int .i64 71, .int .i64 0, .int .i64 0, .int .i64 0, .int .i64 0]]) (X := Nat) (A := []) (M := [cel b_35 84 [.int .i64 0, .slice none 0 0, .slice none 0 0, .slice none 0 0], osl (some ⟨b_7, 0, none⟩) (n1 + 3) (n1 + 3) 6 86 ((ownL l1 (Opc.mk 0 71 0 0 0 0)).flatMap opcV), cel b_2 89 [.int .i64 (u.toInt), .int .i64 (v.toInt)], cel b_1 84 [.int .i64 k, .slice a1 n1 c1, .slice a2 n2 c2, .slice a3 n3 c3]]) (V := fun b => .slice (some ⟨b, 0, none⟩) n2 (n2 + 3)) (A' := fun b => [osl (some ⟨b, 0, none⟩) (n2 + 3) (n2 + 3) 6 86 ((ownL l2 (Opc.mk 0 71 0 0 0 0)).flatMap opcV)]) (C := fun _ => True) Try.call87 (ev2 rfl rfl) (.p .h (.p .h (.p .h (.p .h .nil)))) (fun w hs => ownO_c a2 n2 c2 l2 (Opc.mk 0 71 0 0 0 0) w hn2 ((oldR hr2) w hs) (by omega)) ?_
        rintro b_36 -
        refine ⟨.inr (.p (.t (.t (.t (.t .h)))) .nil), ?_⟩
        refine anyS_all (rs := [13]) (by kernel_rfl) (by simp) ?_
        intro i hi; obtain rfl := List.mem_singleton.1 hi; clear hi
        refine opS_0 rfl rfl ?_
        refine e_call (f := 87) (args := #[.slice a3 n3 c3, .agg #[.int .i64 0, .int .i64 71, .int .i64 0, .int .i64 0, .int .i64 0, .int .i64 0]]) (X := Nat) (A := []) (M := [osl (some ⟨b_36, 0, none⟩) (n2 + 3) (n2 + 3) 6 86 ((ownL l2 (Opc.mk 0 71 0 0 0 0)).flatMap opcV), cel b_35 84 [.int .i64 0, .slice none 0 0, .slice none 0 0, .slice none 0 0], osl (some ⟨b_7, 0, none⟩) (n1 + 3) (n1 + 3) 6 86 ((ownL l1 (Opc.mk 0 71 0 0 0 0)).flatMap opcV), cel b_2 89 [.int .i64 (u.toInt), .int .i64 (v.toInt)], cel b_1 84 [.int .i64 k, .slice a1 n1 c1, .slice a2 n2 c2, .slice a3 n3 c3]]) (V := fun b => .slice (some ⟨b, 0, none⟩) n3 (n3 + 3)) (A' := fun b => [osl (some ⟨b, 0, none⟩) (n3 + 3) (n3 + 3) 6 86 ((ownL l3 (Opc.mk 0 71 0 0 0 0)).flatMap opcV)]) (C := fun _ => True) Try.call87 (ev2 rfl rfl) (.p .h (.p .h (.p .h (.p .h (.p .h .nil))))) (fun w hs => ownO_c a3 n3 c3 l3 (Opc.mk 0 71 0 0 0 0) w hn3 ((oldR hr3) w hs) (by omega)) ?_
        rintro b_38 -
        refine ⟨.inr (.p (.t (.t (.t (.t (.t .h))))) .nil), ?_⟩
        refine anyS_take (i := 14) rfl (by kernel_rfl) (by kernel_rfl) (by kernel_rfl) (by kernel_rfl) (Yq.of (v := .agg #[.int .i64 k, .slice (some ⟨b_7, 0, none⟩) n1 (n1 + 3), .slice (some ⟨b_36, 0, none⟩) n2 (n2 + 3), .slice (some ⟨b_38, 0, none⟩) n3 (n3 + 3)]) (y_buildL (m := [(0, .int .i64 k), (1, .slice (some ⟨b_7, 0, none⟩) n1 (n1 + 3)), (2, .slice (some ⟨b_36, 0, none⟩) n2 (n2 + 3)), (3, .slice (some ⟨b_38, 0, none⟩) n3 (n3 + 3))]) (vs := #[.int .i64 k, .slice (some ⟨b_7, 0, none⟩) n1 (n1 + 3), .slice (some ⟨b_36, 0, none⟩) n2 (n2 + 3), .slice (some ⟨b_38, 0, none⟩) n3 (n3 + 3)]) (evc rfl (evc rfl (evc rfl (evc rfl evn)))) (fun w => by kernel_rfl)) rfl) (.p (.t (.t (.t (.t (.t .h))))) .nil) ?_
        refine anyS_all (rs := [16]) (by kernel_rfl) (by simp) ?_
        intro i hi; obtain rfl := List.mem_singleton.1 hi; clear hi
        refine opS_0 rfl rfl ?_
        refine e_store (vs := [.int .i64 k, .slice (some ⟨b_7, 0, none⟩) n1 (n1 + 3), .slice (some ⟨b_36, 0, none⟩) n2 (n2 + 3), .slice (some ⟨b_38, 0, none⟩) n3 (n3 + 3)]) (l' := [.int .i64 k, .slice (some ⟨b_7, 0, none⟩) n1 (n1 + 3), .slice (some ⟨b_36, 0, none⟩) n2 (n2 + 3), .slice (some ⟨b_38, 0, none⟩) n3 (n3 + 3)]) rfl rfl rfl rfl Try.sizeOf84 (.t (.t .h)) (Nat.le_of_ble_eq_true rfl) rfl ?_
        refine ⟨.inr (.p (.t (.t (.t (.t (.t .h))))) .nil), ?_⟩
        refine anyS_done (by kernel_rfl) ?_
        refine thenS_n ?_
        refine wpS_seq ?_
        refine wpS_anyL [cel b_35 84 [.int .i64 k, .slice (some ⟨b_7, 0, none⟩) n1 (n1 + 3), .slice (some ⟨b_36, 0, none⟩) n2 (n2 + 3), .slice (some ⟨b_38, 0, none⟩) n3 (n3 + 3)], cel b_2 89 [.int .i64 (u.toInt), .int .i64 (v.toInt)]] [] (by kernel_rfl) ?_
        refine anyS_take (i := 0) rfl (by kernel_rfl) (by kernel_rfl) (by kernel_rfl) (by kernel_rfl) (Yq.of (v := .agg #[.int .i64 k, .slice (some ⟨b_7, 0, none⟩) n1 (n1 + 3), .slice (some ⟨b_36, 0, none⟩) n2 (n2 + 3), .slice (some ⟨b_38, 0, none⟩) n3 (n3 + 3)]) (y_loadN (vs := [.int .i64 k, .slice (some ⟨b_7, 0, none⟩) n1 (n1 + 3), .slice (some ⟨b_36, 0, none⟩) n2 (n2 + 3), .slice (some ⟨b_38, 0, none⟩) n3 (n3 + 3)]) rfl Try.isAgg84 Try.sizeOf84 (ownN .h rfl)) rfl) (.p .h (.p (.t (.t (.t .h))) .nil)) ?_
        refine anyS_take (i := 1) rfl (by kernel_rfl) (by kernel_rfl) (by kernel_rfl) (by kernel_rfl) (Yq.of (v := .int .i64 (nn.toInt)) (y_move rfl) rfl) (.p .h (.p (.t (.t (.t .h))) .nil)) ?_
        refine anyS_take (i := 2) rfl (by kernel_rfl) (by kernel_rfl) (by kernel_rfl) (by kernel_rfl) (Yq.of (v := .agg #[.int .i64 (u.toInt), .int .i64 (v.toInt)]) (y_loadN (vs := [.int .i64 (u.toInt), .int .i64 (v.toInt)]) rfl Try.isAgg89 Try.sizeOf89 (ownN (.t .h) rfl)) rfl) (.p .h (.p (.t (.t (.t .h))) .nil)) ?_
        refine anyS_take (i := 4) rfl (by kernel_rfl) (by kernel_rfl) (by kernel_rfl) (by kernel_rfl) (Yq.of (v := .agg #[.int .i64 k, .slice (some ⟨b_7, 0, none⟩) n1 (n1 + 3), .slice (some ⟨b_36, 0, none⟩) n2 (n2 + 3), .slice (some ⟨b_38, 0, none⟩) n3 (n3 + 3)]) (y_loadN (vs := [.int .i64 k, .slice (some ⟨b_7, 0, none⟩) n1 (n1 + 3), .slice (some ⟨b_36, 0, none⟩) n2 (n2 + 3), .slice (some ⟨b_38, 0, none⟩) n3 (n3 + 3)]) rfl Try.isAgg84 Try.sizeOf84 (ownN .h rfl)) rfl) (.p .h (.p (.t (.t (.t .h))) .nil)) ?_
        refine anyS_take (i := 5) rfl (by kernel_rfl) (by kernel_rfl) (by kernel_rfl) (by kernel_rfl) (Yq.of (v := .int .i64 (nn.toInt)) (y_move rfl) rfl) (.p .h (.p (.t (.t (.t .h))) .nil)) ?_
        refine anyS_take (i := 6) rfl (by kernel_rfl) (by kernel_rfl) (by kernel_rfl) (by kernel_rfl) (Yq.of (v := .agg #[.int .i64 (u.toInt), .int .i64 (v.toInt)]) (y_loadN (vs := [.int .i64 (u.toInt), .int .i64 (v.toInt)]) rfl Try.isAgg89 Try.sizeOf89 (ownN (.t .h) rfl)) rfl) (.p .h (.p (.t (.t (.t .h))) .nil)) ?_
        refine anyS_all (rs := [3]) (by kernel_rfl) (by simp) ?_
        intro i hi; obtain rfl := List.mem_singleton.1 hi; clear hi
        refine opS_0 rfl rfl ?_
        refine e_call (f := 83) (args := #[.agg #[.int .i64 k, .slice (some ⟨b_7, 0, none⟩) n1 (n1 + 3), .slice (some ⟨b_36, 0, none⟩) n2 (n2 + 3), .slice (some ⟨b_38, 0, none⟩) n3 (n3 + 3)], .int .i64 (nn.toInt), .agg #[.int .i64 (u.toInt), .int .i64 (v.toInt)]]) (X := Option Addr × Nat) (A := []) (M := [cel b_35 84 [.int .i64 k, .slice (some ⟨b_7, 0, none⟩) n1 (n1 + 3), .slice (some ⟨b_36, 0, none⟩) n2 (n2 + 3), .slice (some ⟨b_38, 0, none⟩) n3 (n3 + 3)], osl (some ⟨b_38, 0, none⟩) (n3 + 3) (n3 + 3) 6 86 ((ownL l3 (Opc.mk 0 71 0 0 0 0)).flatMap opcV), osl (some ⟨b_36, 0, none⟩) (n2 + 3) (n2 + 3) 6 86 ((ownL l2 (Opc.mk 0 71 0 0 0 0)).flatMap opcV), osl (some ⟨b_7, 0, none⟩) (n1 + 3) (n1 + 3) 6 86 ((ownL l1 (Opc.mk 0 71 0 0 0 0)).flatMap opcV), cel b_2 89 [.int .i64 (u.toInt), .int .i64 (v.toInt)], cel b_1 84 [.int .i64 k, .slice a1 n1 c1, .slice a2 n2 c2, .slice a3 n3 c3]]) (V := slV (mapC (chkB k l1 l2 l3) k l1 nn u v)) (A' := fun x => [slR recV 4 23 (mapC (chkB k l1 l2 l3) k l1 nn u v) x]) (C := fun _ => True) Try.call83 (ev3 rfl rfl rfl) (.p .h (.p .h (.p .h (.p .h (.p .h (.p .h .nil)))))) (fun w hs => map_c k (some ⟨b_7, 0, none⟩) (some ⟨b_36, 0, none⟩) (some ⟨b_38, 0, none⟩) n1 (n1 + 3) n2 (n2 + 3) n3 (n3 + 3) l1 l2 l3 nn u v w (by omega) ((rdsT' opcV_len (ownL_take' (by omega)) (oslR (.t (.t (.t .h))))) w hs) (by omega) (by omega) ((rdsT' opcV_len (ownL_take' (by omega)) (oslR (.t (.t .h)))) w hs) (by omega) (by omega) ((rdsT' opcV_len (ownL_take' (by omega)) (oslR (.t .h))) w hs) (by omega)) ?_
        rintro ⟨a_40, c_41⟩ -
        have hml43 : (mapC (chkB k l1 l2 l3) k l1 nn u v).length ≤ 4 := mapC_len
        refine ⟨.inr (.p (.t .h) (.p (.t (.t (.t (.t .h)))) .nil)), ?_⟩
        refine anyS_all (rs := [7]) (by kernel_rfl) (by simp) ?_
        intro i hi; obtain rfl := List.mem_singleton.1 hi; clear hi
        refine opS_0 rfl rfl ?_
        refine e_call (f := 83) (args := #[.agg #[.int .i64 k, .slice (some ⟨b_7, 0, none⟩) n1 (n1 + 3), .slice (some ⟨b_36, 0, none⟩) n2 (n2 + 3), .slice (some ⟨b_38, 0, none⟩) n3 (n3 + 3)], .int .i64 (nn.toInt), .agg #[.int .i64 (u.toInt), .int .i64 (v.toInt)]]) (X := Option Addr × Nat) (A := []) (M := [osl a_40 c_41 ((mapC (chkB k l1 l2 l3) k l1 nn u v).length) 4 23 ((mapC (chkB k l1 l2 l3) k l1 nn u v).flatMap recV), cel b_35 84 [.int .i64 k, .slice (some ⟨b_7, 0, none⟩) n1 (n1 + 3), .slice (some ⟨b_36, 0, none⟩) n2 (n2 + 3), .slice (some ⟨b_38, 0, none⟩) n3 (n3 + 3)], osl (some ⟨b_38, 0, none⟩) (n3 + 3) (n3 + 3) 6 86 ((ownL l3 (Opc.mk 0 71 0 0 0 0)).flatMap opcV), osl (some ⟨b_36, 0, none⟩) (n2 + 3) (n2 + 3) 6 86 ((ownL l2 (Opc.mk 0 71 0 0 0 0)).flatMap opcV), osl (some ⟨b_7, 0, none⟩) (n1 + 3) (n1 + 3) 6 86 ((ownL l1 (Opc.mk 0 71 0 0 0 0)).flatMap opcV), cel b_2 89 [.int .i64 (u.toInt), .int .i64 (v.toInt)], cel b_1 84 [.int .i64 k, .slice a1 n1 c1, .slice a2 n2 c2, .slice a3 n3 c3]]) (V := slV (mapC (chkB k l1 l2 l3) k l1 nn u v)) (A' := fun x => [slR recV 4 23 (mapC (chkB k l1 l2 l3) k l1 nn u v) x]) (C := fun _ => True) Try.call83 (ev3 rfl rfl rfl) (.p .h (.p .h (.p .h (.p .h (.p .h (.p .h (.p .h .nil))))))) (fun w hs => map_c k (some ⟨b_7, 0, none⟩) (some ⟨b_36, 0, none⟩) (some ⟨b_38, 0, none⟩) n1 (n1 + 3) n2 (n2 + 3) n3 (n3 + 3) l1 l2 l3 nn u v w (by omega) ((rdsT' opcV_len (ownL_take' (by omega)) (oslR (.t (.t (.t (.t .h)))))) w hs) (by omega) (by omega) ((rdsT' opcV_len (ownL_take' (by omega)) (oslR (.t (.t (.t .h))))) w hs) (by omega) (by omega) ((rdsT' opcV_len (ownL_take' (by omega)) (oslR (.t (.t .h)))) w hs) (by omega)) ?_
        rintro ⟨a_44, c_45⟩ -
        have hml47 : (mapC (chkB k l1 l2 l3) k l1 nn u v).length ≤ 4 := mapC_len
        refine ⟨.inr (.p (.t (.t .h)) (.p (.t (.t (.t (.t (.t .h))))) .nil)), ?_⟩
        refine anyS_take (i := 8) rfl (by kernel_rfl) (by kernel_rfl) (by kernel_rfl) (by kernel_rfl) (Yq.of (v := .slice a_40 ((mapC (chkB k l1 l2 l3) k l1 nn u v).length) c_41) (y_assign rfl) rfl) (.p (.t (.t .h)) (.p (.t (.t (.t (.t (.t .h))))) .nil)) ?_
        refine anyS_take (i := 9) rfl (by kernel_rfl) (by kernel_rfl) (by kernel_rfl) (by kernel_rfl) (Yq.of (v := .slice a_44 ((mapC (chkB k l1 l2 l3) k l1 nn u v).length) c_45) (y_assign rfl) rfl) (.p (.t (.t .h)) (.p (.t (.t (.t (.t (.t .h))))) .nil)) ?_
        refine anyS_done (by kernel_rfl) ?_
        refine thenS_n ?_
        refine wpS_seq ?_
        refine wpS_lex (by kernel_rfl) (by kernel_rfl) ?_
        refine x_y (v := .agg #[.int .i64 k, .slice (some ⟨b_7, 0, none⟩) n1 (n1 + 3), .slice (some ⟨b_36, 0, none⟩) n2 (n2 + 3), .slice (some ⟨b_38, 0, none⟩) n3 (n3 + 3)]) (y_loadN (vs := [.int .i64 k, .slice (some ⟨b_7, 0, none⟩) n1 (n1 + 3), .slice (some ⟨b_36, 0, none⟩) n2 (n2 + 3), .slice (some ⟨b_38, 0, none⟩) n3 (n3 + 3)]) rfl Try.isAgg84 Try.sizeOf84 (ownN (.t (.t .h)) rfl)) rfl ?_
        refine x_y (v := .int .i64 (nn.toInt)) (y_move rfl) rfl ?_
        refine x_y (v := .pointer (some ⟨b_2, 1, none⟩)) (y_fieldAddr (o' := 1) rfl Try.underlying89 rfl Try.sizeOf2 (by decide) rfl) rfl ?_
        refine x_y (v := .int .i64 (v.toInt)) (y_load1 rfl Try.isAgg2 (own1 (.t (.t (.t (.t (.t (.t .h)))))) rfl)) rfl ?_
        refine x_y (v := .int .i64 (((doneC (chkB k l1 l2 l3) l2 nn v)).toInt)) (y_call (args := #[.agg #[.int .i64 k, .slice (some ⟨b_7, 0, none⟩) n1 (n1 + 3), .slice (some ⟨b_36, 0, none⟩) n2 (n2 + 3), .slice (some ⟨b_38, 0, none⟩) n3 (n3 + 3)], .int .i64 (nn.toInt), .int .i64 (v.toInt)]) (v := .int .i64 (((doneC (chkB k l1 l2 l3) l2 nn v)).toInt)) Try.call85 (ev3 rfl rfl rfl) (fun w hs => fold_c k (some ⟨b_7, 0, none⟩) (some ⟨b_36, 0, none⟩) (some ⟨b_38, 0, none⟩) n1 (n1 + 3) n2 (n2 + 3) n3 (n3 + 3) l1 l2 l3 nn v w (by omega) ((rdsT' opcV_len (ownL_take' (by omega)) (oslR (.t (.t (.t (.t (.t .h))))))) w hs) (by omega) (by omega) ((rdsT' opcV_len (ownL_take' (by omega)) (oslR (.t (.t (.t (.t .h)))))) w hs) (by omega) (by omega) ((rdsT' opcV_len (ownL_take' (by omega)) (oslR (.t (.t (.t .h))))) w hs) (by omega))) rfl ?_
        refine x_y (v := .agg #[.int .i64 k, .slice a1 n1 c1, .slice a2 n2 c2, .slice a3 n3 c3]) (y_loadN (vs := [.int .i64 k, .slice a1 n1 c1, .slice a2 n2 c2, .slice a3 n3 c3]) rfl Try.isAgg84 Try.sizeOf84 (ownN (.t (.t (.t (.t (.t (.t (.t .h))))))) rfl)) rfl ?_
        refine x_y (v := .int .i64 (nn.toInt)) (y_move rfl) rfl ?_
        refine x_y (v := .pointer (some ⟨b_2, 1, none⟩)) (y_fieldAddr (o' := 1) rfl Try.underlying89 rfl Try.sizeOf2 (by decide) rfl) rfl ?_
        refine x_y (v := .int .i64 (v.toInt)) (y_load1 rfl Try.isAgg2 (own1 (.t (.t (.t (.t (.t (.t .h)))))) rfl)) rfl ?_
        refine x_y (v := .int .i64 (((doneC (chkB k l1 l2 l3) l2 nn v)).toInt)) (y_call (args := #[.agg #[.int .i64 k, .slice a1 n1 c1, .slice a2 n2 c2, .slice a3 n3 c3], .int .i64 (nn.toInt), .int .i64 (v.toInt)]) (v := .int .i64 (((doneC (chkB k l1 l2 l3) l2 nn v)).toInt)) Try.call85 (ev3 rfl rfl rfl) (fun w hs => fold_c k a1 a2 a3 n1 c1 n2 c2 n3 c3 l1 l2 l3 nn v w hn1 ((oldR hr1) w hs) (by omega) hn2 ((oldR hr2) w hs) (by omega) hn3 ((oldR hr3) w hs) (by omega))) rfl ?_
        refine x_y (v := .bool (decide ((doneC (chkB k l1 l2 l3) l2 nn v) = (doneC (chkB k l1 l2 l3) l2 nn v)))) (y_eql (a := ((doneC (chkB k l1 l2 l3) l2 nn v)).toInt) (b := ((doneC (chkB k l1 l2 l3) l2 nn v)).toInt) (c := decide ((doneC (chkB k l1 l2 l3) l2 nn v) = (doneC (chkB k l1 l2 l3) l2 nn v))) rfl rfl (i_eql _ _)) rfl ?_
        refine x_y (v := .bool (decide ((doneC (chkB k l1 l2 l3) l2 nn v) = (doneC (chkB k l1 l2 l3) l2 nn v)))) (y_move rfl) rfl ?_
        refine x_gy (y_move rfl) rfl rfl rfl rfl (b' := decide ((doneC (chkB k l1 l2 l3) l2 nn v) = (doneC (chkB k l1 l2 l3) l2 nn v))) rfl (decide_eq_true rfl) ?_
        refine x_gy (y_move rfl) rfl rfl rfl rfl (b' := decide ((doneC (chkB k l1 l2 l3) l2 nn v) = (doneC (chkB k l1 l2 l3) l2 nn v))) rfl (decide_eq_true rfl) ?_
        refine x_gy (y_call (args := #[.slice a_40 ((mapC (chkB k l1 l2 l3) k l1 nn u v).length) c_41, .slice a_44 ((mapC (chkB k l1 l2 l3) k l1 nn u v).length) c_45]) (v := .bool (decide ((mapC (chkB k l1 l2 l3) k l1 nn u v) = (mapC (chkB k l1 l2 l3) k l1 nn u v)))) Try.call77 (ev2 rfl rfl) (fun w hs => plain_c a_40 a_44 ((mapC (chkB k l1 l2 l3) k l1 nn u v).length) c_41 ((mapC (chkB k l1 l2 l3) k l1 nn u v).length) c_45 (mapC (chkB k l1 l2 l3) k l1 nn u v) (mapC (chkB k l1 l2 l3) k l1 nn u v) w rfl rfl (oslR (.t .h) w hs) (oslR .h w hs) (by omega) (by omega))) rfl rfl rfl rfl (b' := decide ((doneC (chkB k l1 l2 l3) l2 nn v) = (doneC (chkB k l1 l2 l3) l2 nn v))) rfl (decide_eq_true rfl) ?_
        refine x_y (v := .bool (decide ((mapC (chkB k l1 l2 l3) k l1 nn u v) = (mapC (chkB k l1 l2 l3) k l1 nn u v)))) (y_pickT (b := decide ((doneC (chkB k l1 l2 l3) l2 nn v) = (doneC (chkB k l1 l2 l3) l2 nn v))) (v := .bool (decide ((mapC (chkB k l1 l2 l3) k l1 nn u v) = (mapC (chkB k l1 l2 l3) k l1 nn u v)))) rfl (decide_eq_true rfl) rfl) rfl ?_
        refine x_y (v := .bool (decide ((mapC (chkB k l1 l2 l3) k l1 nn u v) = (mapC (chkB k l1 l2 l3) k l1 nn u v)))) (y_assign rfl) rfl ?_
        refine x_nil ?_
        refine thenS_n ?_
        refine wpS_seq ?_
        refine wpS_region ?_
        refine s_y (v := .bool true) (y_call (args := #[]) (v := .bool true) Try.call82 ev0 (fun w hs => awake11_c w)) rfl ?_
        refine s_y (v := .bool true) (y_move rfl) rfl ?_
        refine s_gy (y_move rfl) rfl rfl rfl rfl rfl rfl ?_
        refine s_y (v := .bool (decide ((mapC (chkB k l1 l2 l3) k l1 nn u v) = (mapC (chkB k l1 l2 l3) k l1 nn u v)))) (y_pickT (v := .bool (decide ((mapC (chkB k l1 l2 l3) k l1 nn u v) = (mapC (chkB k l1 l2 l3) k l1 nn u v)))) rfl rfl rfl) rfl ?_
        refine s_y (v := .bool (decide ((mapC (chkB k l1 l2 l3) k l1 nn u v) = (mapC (chkB k l1 l2 l3) k l1 nn u v)))) (y_move rfl) rfl ?_
        refine s_gy (y_fieldAddr (o' := 1) rfl Try.underlying84 rfl Try.sizeOf82 (by decide) rfl) rfl rfl rfl rfl (b' := decide ((mapC (chkB k l1 l2 l3) k l1 nn u v) = (mapC (chkB k l1 l2 l3) k l1 nn u v))) rfl (decide_eq_true rfl) ?_
        refine s_gy (y_load1 rfl Try.isAgg82 (own1 (.t (.t .h)) rfl)) rfl rfl rfl rfl (b' := decide ((mapC (chkB k l1 l2 l3) k l1 nn u v) = (mapC (chkB k l1 l2 l3) k l1 nn u v))) rfl (decide_eq_true rfl) ?_
        refine s_gy (y_fieldAddr (o' := 1) rfl Try.underlying84 rfl Try.sizeOf82 (by decide) rfl) rfl rfl rfl rfl (b' := decide ((mapC (chkB k l1 l2 l3) k l1 nn u v) = (mapC (chkB k l1 l2 l3) k l1 nn u v))) rfl (decide_eq_true rfl) ?_
        refine s_gy (y_load1 rfl Try.isAgg82 (own1 (.t (.t (.t (.t (.t (.t (.t .h))))))) rfl)) rfl rfl rfl rfl (b' := decide ((mapC (chkB k l1 l2 l3) k l1 nn u v) = (mapC (chkB k l1 l2 l3) k l1 nn u v))) rfl (decide_eq_true rfl) ?_
        refine s_gy (y_buildL (m := [(1, .int .i64 71)]) (vs := #[.int .i64 0, .int .i64 71, .int .i64 0, .int .i64 0, .int .i64 0, .int .i64 0]) (evc rfl evn) (fun w => by kernel_rfl)) rfl rfl rfl rfl (b' := decide ((mapC (chkB k l1 l2 l3) k l1 nn u v) = (mapC (chkB k l1 l2 l3) k l1 nn u v))) rfl (decide_eq_true rfl) ?_
        refine s_gy (y_call (args := #[.slice (some ⟨b_7, 0, none⟩) n1 (n1 + 3), .slice a1 n1 c1, .agg #[.int .i64 0, .int .i64 71, .int .i64 0, .int .i64 0, .int .i64 0, .int .i64 0]]) (v := .bool true) Try.call88 (ev3 rfl rfl rfl) (fun w hs => keptO_c b_7 a1 n1 c1 l1 (Opc.mk 0 71 0 0 0 0) w hn1 ((oldR hr1) w hs) (by omega) (oslR (.t (.t (.t (.t (.t .h))))) w hs))) rfl rfl rfl rfl (b' := decide ((mapC (chkB k l1 l2 l3) k l1 nn u v) = (mapC (chkB k l1 l2 l3) k l1 nn u v))) rfl (decide_eq_true rfl) ?_
        refine s_y (v := .bool true) (y_pickT (b := decide ((mapC (chkB k l1 l2 l3) k l1 nn u v) = (mapC (chkB k l1 l2 l3) k l1 nn u v))) (v := .bool true) rfl (decide_eq_true rfl) rfl) rfl ?_
        refine s_y (v := .bool true) (y_move rfl) rfl ?_
        refine s_gy (y_fieldAddr (o' := 2) rfl Try.underlying84 rfl Try.sizeOf82 (by decide) rfl) rfl rfl rfl rfl rfl rfl ?_
        refine s_gy (y_load1 rfl Try.isAgg82 (own1 (.t (.t .h)) rfl)) rfl rfl rfl rfl rfl rfl ?_
        refine s_gy (y_fieldAddr (o' := 2) rfl Try.underlying84 rfl Try.sizeOf82 (by decide) rfl) rfl rfl rfl rfl rfl rfl ?_
        refine s_gy (y_load1 rfl Try.isAgg82 (own1 (.t (.t (.t (.t (.t (.t (.t .h))))))) rfl)) rfl rfl rfl rfl rfl rfl ?_
        refine s_gy (y_buildL (m := [(1, .int .i64 71)]) (vs := #[.int .i64 0, .int .i64 71, .int .i64 0, .int .i64 0, .int .i64 0, .int .i64 0]) (evc rfl evn) (fun w => by kernel_rfl)) rfl rfl rfl rfl rfl rfl ?_
        refine s_gy (y_call (args := #[.slice (some ⟨b_36, 0, none⟩) n2 (n2 + 3), .slice a2 n2 c2, .agg #[.int .i64 0, .int .i64 71, .int .i64 0, .int .i64 0, .int .i64 0, .int .i64 0]]) (v := .bool true) Try.call88 (ev3 rfl rfl rfl) (fun w hs => keptO_c b_36 a2 n2 c2 l2 (Opc.mk 0 71 0 0 0 0) w hn2 ((oldR hr2) w hs) (by omega) (oslR (.t (.t (.t (.t .h)))) w hs))) rfl rfl rfl rfl rfl rfl ?_
        refine s_y (v := .bool true) (y_pickT (v := .bool true) rfl rfl rfl) rfl ?_
        refine s_y (v := .bool true) (y_move rfl) rfl ?_
        refine s_gy (y_fieldAddr (o' := 3) rfl Try.underlying84 rfl Try.sizeOf82 (by decide) rfl) rfl rfl rfl rfl rfl rfl ?_
        refine s_gy (y_load1 rfl Try.isAgg82 (own1 (.t (.t .h)) rfl)) rfl rfl rfl rfl rfl rfl ?_
        refine s_gy (y_fieldAddr (o' := 3) rfl Try.underlying84 rfl Try.sizeOf82 (by decide) rfl) rfl rfl rfl rfl rfl rfl ?_
        refine s_gy (y_load1 rfl Try.isAgg82 (own1 (.t (.t (.t (.t (.t (.t (.t .h))))))) rfl)) rfl rfl rfl rfl rfl rfl ?_
        refine s_gy (y_buildL (m := [(1, .int .i64 71)]) (vs := #[.int .i64 0, .int .i64 71, .int .i64 0, .int .i64 0, .int .i64 0, .int .i64 0]) (evc rfl evn) (fun w => by kernel_rfl)) rfl rfl rfl rfl rfl rfl ?_
        refine s_gy (y_call (args := #[.slice (some ⟨b_38, 0, none⟩) n3 (n3 + 3), .slice a3 n3 c3, .agg #[.int .i64 0, .int .i64 71, .int .i64 0, .int .i64 0, .int .i64 0, .int .i64 0]]) (v := .bool true) Try.call88 (ev3 rfl rfl rfl) (fun w hs => keptO_c b_38 a3 n3 c3 l3 (Opc.mk 0 71 0 0 0 0) w hn3 ((oldR hr3) w hs) (by omega) (oslR (.t (.t (.t .h))) w hs))) rfl rfl rfl rfl rfl rfl ?_
        refine s_y (v := .bool true) (y_pickT (v := .bool true) rfl rfl rfl) rfl ?_
        refine s_y (v := .bool true) (y_assign rfl) rfl ?_
        refine wpL_nil ?_
        refine thenS_n ?_
        refine wpS_ret ?_
        refine fin1 (v := .bool true) (.inr rfl) (.nil) Try.results21 rfl ?_
        exact fun w' hs => ⟨rfl, hs⟩
    · -- number 15 first
      refine opS_0 rfl rfl ?_
      refine e_alloc (l := [.int .i64 0, .slice none 0 0, .slice none 0 0, .slice none 0 0]) Try.zeroValue84 rfl ?_
      intro b_48
      refine ⟨.inr (.p (.t (.t .h)) .nil), ?_⟩
      refine anyS_all (rs := [5]) (by kernel_rfl) (by simp) ?_
      intro i hi; obtain rfl := List.mem_singleton.1 hi; clear hi
      refine opS_0 rfl rfl ?_
      refine e_call (f := 87) (args := #[.slice a1 n1 c1, .agg #[.int .i64 0, .int .i64 71, .int .i64 0, .int .i64 0, .int .i64 0, .int .i64 0]]) (X := Nat) (A := []) (M := [cel b_48 84 [.int .i64 0, .slice none 0 0, .slice none 0 0, .slice none 0 0], cel b_2 89 [.int .i64 (u.toInt), .int .i64 (v.toInt)], cel b_1 84 [.int .i64 k, .slice a1 n1 c1, .slice a2 n2 c2, .slice a3 n3 c3]]) (V := fun b => .slice (some ⟨b, 0, none⟩) n1 (n1 + 3)) (A' := fun b => [osl (some ⟨b, 0, none⟩) (n1 + 3) (n1 + 3) 6 86 ((ownL l1 (Opc.mk 0 71 0 0 0 0)).flatMap opcV)]) (C := fun _ => True) Try.call87 (ev2 rfl rfl) (.p .h (.p .h (.p .h .nil))) (fun w hs => ownO_c a1 n1 c1 l1 (Opc.mk 0 71 0 0 0 0) w hn1 ((oldR hr1) w hs) (by omega)) ?_
      rintro b_49 -
      refine ⟨.inr (.p (.t (.t (.t .h))) .nil), ?_⟩
      refine anyS_all (rs := [9]) (by kernel_rfl) (by simp) ?_
      intro i hi; obtain rfl := List.mem_singleton.1 hi; clear hi
      refine opS_0 rfl rfl ?_
      refine e_call (f := 87) (args := #[.slice a2 n2 c2, .agg #[.int .i64 0, .int .i64 71, .int .i64 0, .int .i64 0, .int .i64 0, .int .i64 0]]) (X := Nat) (A := []) (M := [osl (some ⟨b_49, 0, none⟩) (n1 + 3) (n1 + 3) 6 86 ((ownL l1 (Opc.mk 0 71 0 0 0 0)).flatMap opcV), cel b_48 84 [.int .i64 0, .slice none 0 0, .slice none 0 0, .slice none 0 0], cel b_2 89 [.int .i64 (u.toInt), .int .i64 (v.toInt)], cel b_1 84 [.int .i64 k, .slice a1 n1 c1, .slice a2 n2 c2, .slice a3 n3 c3]]) (V := fun b => .slice (some ⟨b, 0, none⟩) n2 (n2 + 3)) (A' := fun b => [osl (some ⟨b, 0, none⟩) (n2 + 3) (n2 + 3) 6 86 ((ownL l2 (Opc.mk 0 71 0 0 0 0)).flatMap opcV)]) (C := fun _ => True) Try.call87 (ev2 rfl rfl) (.p .h (.p .h (.p .h (.p .h .nil)))) (fun w hs => ownO_c a2 n2 c2 l2 (Opc.mk 0 71 0 0 0 0) w hn2 ((oldR hr2) w hs) (by omega)) ?_
      rintro b_51 -
      refine ⟨.inr (.p (.t (.t (.t (.t .h)))) .nil), ?_⟩
      refine anyS_all (rs := [13]) (by kernel_rfl) (by simp) ?_
      intro i hi; obtain rfl := List.mem_singleton.1 hi; clear hi
      refine opS_0 rfl rfl ?_
      refine e_call (f := 87) (args := #[.slice a3 n3 c3, .agg #[.int .i64 0, .int .i64 71, .int .i64 0, .int .i64 0, .int .i64 0, .int .i64 0]]) (X := Nat) (A := []) (M := [osl (some ⟨b_51, 0, none⟩) (n2 + 3) (n2 + 3) 6 86 ((ownL l2 (Opc.mk 0 71 0 0 0 0)).flatMap opcV), osl (some ⟨b_49, 0, none⟩) (n1 + 3) (n1 + 3) 6 86 ((ownL l1 (Opc.mk 0 71 0 0 0 0)).flatMap opcV), cel b_48 84 [.int .i64 0, .slice none 0 0, .slice none 0 0, .slice none 0 0], cel b_2 89 [.int .i64 (u.toInt), .int .i64 (v.toInt)], cel b_1 84 [.int .i64 k, .slice a1 n1 c1, .slice a2 n2 c2, .slice a3 n3 c3]]) (V := fun b => .slice (some ⟨b, 0, none⟩) n3 (n3 + 3)) (A' := fun b => [osl (some ⟨b, 0, none⟩) (n3 + 3) (n3 + 3) 6 86 ((ownL l3 (Opc.mk 0 71 0 0 0 0)).flatMap opcV)]) (C := fun _ => True) Try.call87 (ev2 rfl rfl) (.p .h (.p .h (.p .h (.p .h (.p .h .nil))))) (fun w hs => ownO_c a3 n3 c3 l3 (Opc.mk 0 71 0 0 0 0) w hn3 ((oldR hr3) w hs) (by omega)) ?_
      rintro b_53 -
      refine ⟨.inr (.p (.t (.t (.t (.t (.t .h))))) .nil), ?_⟩
      refine anyS_take (i := 14) rfl (by kernel_rfl) (by kernel_rfl) (by kernel_rfl) (by kernel_rfl) (Yq.of (v := .agg #[.int .i64 k, .slice (some ⟨b_49, 0, none⟩) n1 (n1 + 3), .slice (some ⟨b_51, 0, none⟩) n2 (n2 + 3), .slice (some ⟨b_53, 0, none⟩) n3 (n3 + 3)]) (y_buildL (m := [(0, .int .i64 k), (1, .slice (some ⟨b_49, 0, none⟩) n1 (n1 + 3)), (2, .slice (some ⟨b_51, 0, none⟩) n2 (n2 + 3)), (3, .slice (some ⟨b_53, 0, none⟩) n3 (n3 + 3))]) (vs := #[.int .i64 k, .slice (some ⟨b_49, 0, none⟩) n1 (n1 + 3), .slice (some ⟨b_51, 0, none⟩) n2 (n2 + 3), .slice (some ⟨b_53, 0, none⟩) n3 (n3 + 3)]) (evc rfl (evc rfl (evc rfl (evc rfl evn)))) (fun w => by kernel_rfl)) rfl) (.p (.t (.t (.t (.t (.t .h))))) .nil) ?_
      refine anyS_all (rs := [16]) (by kernel_rfl) (by simp) ?_
      intro i hi; obtain rfl := List.mem_singleton.1 hi; clear hi
      refine opS_0 rfl rfl ?_
      refine e_store (vs := [.int .i64 k, .slice (some ⟨b_49, 0, none⟩) n1 (n1 + 3), .slice (some ⟨b_51, 0, none⟩) n2 (n2 + 3), .slice (some ⟨b_53, 0, none⟩) n3 (n3 + 3)]) (l' := [.int .i64 k, .slice (some ⟨b_49, 0, none⟩) n1 (n1 + 3), .slice (some ⟨b_51, 0, none⟩) n2 (n2 + 3), .slice (some ⟨b_53, 0, none⟩) n3 (n3 + 3)]) rfl rfl rfl rfl Try.sizeOf84 (.t (.t (.t .h))) (Nat.le_of_ble_eq_true rfl) rfl ?_
      refine ⟨.inr (.p (.t (.t (.t (.t (.t .h))))) .nil), ?_⟩
      refine anyS_done (by kernel_rfl) ?_
      refine thenS_n ?_
      refine wpS_seq ?_
      refine wpS_anyL [cel b_48 84 [.int .i64 k, .slice (some ⟨b_49, 0, none⟩) n1 (n1 + 3), .slice (some ⟨b_51, 0, none⟩) n2 (n2 + 3), .slice (some ⟨b_53, 0, none⟩) n3 (n3 + 3)], cel b_2 89 [.int .i64 (u.toInt), .int .i64 (v.toInt)]] [] (by kernel_rfl) ?_
      refine anyS_take (i := 0) rfl (by kernel_rfl) (by kernel_rfl) (by kernel_rfl) (by kernel_rfl) (Yq.of (v := .agg #[.int .i64 k, .slice (some ⟨b_49, 0, none⟩) n1 (n1 + 3), .slice (some ⟨b_51, 0, none⟩) n2 (n2 + 3), .slice (some ⟨b_53, 0, none⟩) n3 (n3 + 3)]) (y_loadN (vs := [.int .i64 k, .slice (some ⟨b_49, 0, none⟩) n1 (n1 + 3), .slice (some ⟨b_51, 0, none⟩) n2 (n2 + 3), .slice (some ⟨b_53, 0, none⟩) n3 (n3 + 3)]) rfl Try.isAgg84 Try.sizeOf84 (ownN .h rfl)) rfl) (.p .h (.p (.t (.t (.t .h))) .nil)) ?_
      refine anyS_take (i := 1) rfl (by kernel_rfl) (by kernel_rfl) (by kernel_rfl) (by kernel_rfl) (Yq.of (v := .int .i64 (nn.toInt)) (y_move rfl) rfl) (.p .h (.p (.t (.t (.t .h))) .nil)) ?_
      refine anyS_take (i := 2) rfl (by kernel_rfl) (by kernel_rfl) (by kernel_rfl) (by kernel_rfl) (Yq.of (v := .agg #[.int .i64 (u.toInt), .int .i64 (v.toInt)]) (y_loadN (vs := [.int .i64 (u.toInt), .int .i64 (v.toInt)]) rfl Try.isAgg89 Try.sizeOf89 (ownN (.t .h) rfl)) rfl) (.p .h (.p (.t (.t (.t .h))) .nil)) ?_
      refine anyS_take (i := 4) rfl (by kernel_rfl) (by kernel_rfl) (by kernel_rfl) (by kernel_rfl) (Yq.of (v := .agg #[.int .i64 k, .slice (some ⟨b_49, 0, none⟩) n1 (n1 + 3), .slice (some ⟨b_51, 0, none⟩) n2 (n2 + 3), .slice (some ⟨b_53, 0, none⟩) n3 (n3 + 3)]) (y_loadN (vs := [.int .i64 k, .slice (some ⟨b_49, 0, none⟩) n1 (n1 + 3), .slice (some ⟨b_51, 0, none⟩) n2 (n2 + 3), .slice (some ⟨b_53, 0, none⟩) n3 (n3 + 3)]) rfl Try.isAgg84 Try.sizeOf84 (ownN .h rfl)) rfl) (.p .h (.p (.t (.t (.t .h))) .nil)) ?_
      refine anyS_take (i := 5) rfl (by kernel_rfl) (by kernel_rfl) (by kernel_rfl) (by kernel_rfl) (Yq.of (v := .int .i64 (nn.toInt)) (y_move rfl) rfl) (.p .h (.p (.t (.t (.t .h))) .nil)) ?_
      refine anyS_take (i := 6) rfl (by kernel_rfl) (by kernel_rfl) (by kernel_rfl) (by kernel_rfl) (Yq.of (v := .agg #[.int .i64 (u.toInt), .int .i64 (v.toInt)]) (y_loadN (vs := [.int .i64 (u.toInt), .int .i64 (v.toInt)]) rfl Try.isAgg89 Try.sizeOf89 (ownN (.t .h) rfl)) rfl) (.p .h (.p (.t (.t (.t .h))) .nil)) ?_
      refine anyS_all (rs := [3]) (by kernel_rfl) (by simp) ?_
      intro i hi; obtain rfl := List.mem_singleton.1 hi; clear hi
      refine opS_0 rfl rfl ?_
      refine e_call (f := 83) (args := #[.agg #[.int .i64 k, .slice (some ⟨b_49, 0, none⟩) n1 (n1 + 3), .slice (some ⟨b_51, 0, none⟩) n2 (n2 + 3), .slice (some ⟨b_53, 0, none⟩) n3 (n3 + 3)], .int .i64 (nn.toInt), .agg #[.int .i64 (u.toInt), .int .i64 (v.toInt)]]) (X := Option Addr × Nat) (A := []) (M := [cel b_48 84 [.int .i64 k, .slice (some ⟨b_49, 0, none⟩) n1 (n1 + 3), .slice (some ⟨b_51, 0, none⟩) n2 (n2 + 3), .slice (some ⟨b_53, 0, none⟩) n3 (n3 + 3)], osl (some ⟨b_53, 0, none⟩) (n3 + 3) (n3 + 3) 6 86 ((ownL l3 (Opc.mk 0 71 0 0 0 0)).flatMap opcV), osl (some ⟨b_51, 0, none⟩) (n2 + 3) (n2 + 3) 6 86 ((ownL l2 (Opc.mk 0 71 0 0 0 0)).flatMap opcV), osl (some ⟨b_49, 0, none⟩) (n1 + 3) (n1 + 3) 6 86 ((ownL l1 (Opc.mk 0 71 0 0 0 0)).flatMap opcV), cel b_2 89 [.int .i64 (u.toInt), .int .i64 (v.toInt)], cel b_1 84 [.int .i64 k, .slice a1 n1 c1, .slice a2 n2 c2, .slice a3 n3 c3]]) (V := slV (mapC (chkB k l1 l2 l3) k l1 nn u v)) (A' := fun x => [slR recV 4 23 (mapC (chkB k l1 l2 l3) k l1 nn u v) x]) (C := fun _ => True) Try.call83 (ev3 rfl rfl rfl) (.p .h (.p .h (.p .h (.p .h (.p .h (.p .h .nil)))))) (fun w hs => map_c k (some ⟨b_49, 0, none⟩) (some ⟨b_51, 0, none⟩) (some ⟨b_53, 0, none⟩) n1 (n1 + 3) n2 (n2 + 3) n3 (n3 + 3) l1 l2 l3 nn u v w (by omega) ((rdsT' opcV_len (ownL_take' (by omega)) (oslR (.t (.t (.t .h))))) w hs) (by omega) (by omega) ((rdsT' opcV_len (ownL_take' (by omega)) (oslR (.t (.t .h)))) w hs) (by omega) (by omega) ((rdsT' opcV_len (ownL_take' (by omega)) (oslR (.t .h))) w hs) (by omega)) ?_
      rintro ⟨a_55, c_56⟩ -
      have hml58 : (mapC (chkB k l1 l2 l3) k l1 nn u v).length ≤ 4 := mapC_len
      refine ⟨.inr (.p (.t .h) (.p (.t (.t (.t (.t .h)))) .nil)), ?_⟩
      refine anyS_all (rs := [7]) (by kernel_rfl) (by simp) ?_
      intro i hi; obtain rfl := List.mem_singleton.1 hi; clear hi
      refine opS_0 rfl rfl ?_
      refine e_call (f := 83) (args := #[.agg #[.int .i64 k, .slice (some ⟨b_49, 0, none⟩) n1 (n1 + 3), .slice (some ⟨b_51, 0, none⟩) n2 (n2 + 3), .slice (some ⟨b_53, 0, none⟩) n3 (n3 + 3)], .int .i64 (nn.toInt), .agg #[.int .i64 (u.toInt), .int .i64 (v.toInt)]]) (X := Option Addr × Nat) (A := []) (M := [osl a_55 c_56 ((mapC (chkB k l1 l2 l3) k l1 nn u v).length) 4 23 ((mapC (chkB k l1 l2 l3) k l1 nn u v).flatMap recV), cel b_48 84 [.int .i64 k, .slice (some ⟨b_49, 0, none⟩) n1 (n1 + 3), .slice (some ⟨b_51, 0, none⟩) n2 (n2 + 3), .slice (some ⟨b_53, 0, none⟩) n3 (n3 + 3)], osl (some ⟨b_53, 0, none⟩) (n3 + 3) (n3 + 3) 6 86 ((ownL l3 (Opc.mk 0 71 0 0 0 0)).flatMap opcV), osl (some ⟨b_51, 0, none⟩) (n2 + 3) (n2 + 3) 6 86 ((ownL l2 (Opc.mk 0 71 0 0 0 0)).flatMap opcV), osl (some ⟨b_49, 0, none⟩) (n1 + 3) (n1 + 3) 6 86 ((ownL l1 (Opc.mk 0 71 0 0 0 0)).flatMap opcV), cel b_2 89 [.int .i64 (u.toInt), .int .i64 (v.toInt)], cel b_1 84 [.int .i64 k, .slice a1 n1 c1, .slice a2 n2 c2, .slice a3 n3 c3]]) (V := slV (mapC (chkB k l1 l2 l3) k l1 nn u v)) (A' := fun x => [slR recV 4 23 (mapC (chkB k l1 l2 l3) k l1 nn u v) x]) (C := fun _ => True) Try.call83 (ev3 rfl rfl rfl) (.p .h (.p .h (.p .h (.p .h (.p .h (.p .h (.p .h .nil))))))) (fun w hs => map_c k (some ⟨b_49, 0, none⟩) (some ⟨b_51, 0, none⟩) (some ⟨b_53, 0, none⟩) n1 (n1 + 3) n2 (n2 + 3) n3 (n3 + 3) l1 l2 l3 nn u v w (by omega) ((rdsT' opcV_len (ownL_take' (by omega)) (oslR (.t (.t (.t (.t .h)))))) w hs) (by omega) (by omega) ((rdsT' opcV_len (ownL_take' (by omega)) (oslR (.t (.t (.t .h))))) w hs) (by omega) (by omega) ((rdsT' opcV_len (ownL_take' (by omega)) (oslR (.t (.t .h)))) w hs) (by omega)) ?_
      rintro ⟨a_59, c_60⟩ -
      have hml62 : (mapC (chkB k l1 l2 l3) k l1 nn u v).length ≤ 4 := mapC_len
      refine ⟨.inr (.p (.t (.t .h)) (.p (.t (.t (.t (.t (.t .h))))) .nil)), ?_⟩
      refine anyS_take (i := 8) rfl (by kernel_rfl) (by kernel_rfl) (by kernel_rfl) (by kernel_rfl) (Yq.of (v := .slice a_55 ((mapC (chkB k l1 l2 l3) k l1 nn u v).length) c_56) (y_assign rfl) rfl) (.p (.t (.t .h)) (.p (.t (.t (.t (.t (.t .h))))) .nil)) ?_
      refine anyS_take (i := 9) rfl (by kernel_rfl) (by kernel_rfl) (by kernel_rfl) (by kernel_rfl) (Yq.of (v := .slice a_59 ((mapC (chkB k l1 l2 l3) k l1 nn u v).length) c_60) (y_assign rfl) rfl) (.p (.t (.t .h)) (.p (.t (.t (.t (.t (.t .h))))) .nil)) ?_
      refine anyS_done (by kernel_rfl) ?_
      refine thenS_n ?_
      refine wpS_seq ?_
      refine wpS_lex (by kernel_rfl) (by kernel_rfl) ?_
      refine x_y (v := .agg #[.int .i64 k, .slice (some ⟨b_49, 0, none⟩) n1 (n1 + 3), .slice (some ⟨b_51, 0, none⟩) n2 (n2 + 3), .slice (some ⟨b_53, 0, none⟩) n3 (n3 + 3)]) (y_loadN (vs := [.int .i64 k, .slice (some ⟨b_49, 0, none⟩) n1 (n1 + 3), .slice (some ⟨b_51, 0, none⟩) n2 (n2 + 3), .slice (some ⟨b_53, 0, none⟩) n3 (n3 + 3)]) rfl Try.isAgg84 Try.sizeOf84 (ownN (.t (.t .h)) rfl)) rfl ?_
      refine x_y (v := .int .i64 (nn.toInt)) (y_move rfl) rfl ?_
      refine x_y (v := .pointer (some ⟨b_2, 1, none⟩)) (y_fieldAddr (o' := 1) rfl Try.underlying89 rfl Try.sizeOf2 (by decide) rfl) rfl ?_
      refine x_y (v := .int .i64 (v.toInt)) (y_load1 rfl Try.isAgg2 (own1 (.t (.t (.t (.t (.t (.t .h)))))) rfl)) rfl ?_
      refine x_y (v := .int .i64 (((doneC (chkB k l1 l2 l3) l2 nn v)).toInt)) (y_call (args := #[.agg #[.int .i64 k, .slice (some ⟨b_49, 0, none⟩) n1 (n1 + 3), .slice (some ⟨b_51, 0, none⟩) n2 (n2 + 3), .slice (some ⟨b_53, 0, none⟩) n3 (n3 + 3)], .int .i64 (nn.toInt), .int .i64 (v.toInt)]) (v := .int .i64 (((doneC (chkB k l1 l2 l3) l2 nn v)).toInt)) Try.call85 (ev3 rfl rfl rfl) (fun w hs => fold_c k (some ⟨b_49, 0, none⟩) (some ⟨b_51, 0, none⟩) (some ⟨b_53, 0, none⟩) n1 (n1 + 3) n2 (n2 + 3) n3 (n3 + 3) l1 l2 l3 nn v w (by omega) ((rdsT' opcV_len (ownL_take' (by omega)) (oslR (.t (.t (.t (.t (.t .h))))))) w hs) (by omega) (by omega) ((rdsT' opcV_len (ownL_take' (by omega)) (oslR (.t (.t (.t (.t .h)))))) w hs) (by omega) (by omega) ((rdsT' opcV_len (ownL_take' (by omega)) (oslR (.t (.t (.t .h))))) w hs) (by omega))) rfl ?_
      refine x_y (v := .agg #[.int .i64 k, .slice a1 n1 c1, .slice a2 n2 c2, .slice a3 n3 c3]) (y_loadN (vs := [.int .i64 k, .slice a1 n1 c1, .slice a2 n2 c2, .slice a3 n3 c3]) rfl Try.isAgg84 Try.sizeOf84 (ownN (.t (.t (.t (.t (.t (.t (.t .h))))))) rfl)) rfl ?_
      refine x_y (v := .int .i64 (nn.toInt)) (y_move rfl) rfl ?_
      refine x_y (v := .pointer (some ⟨b_2, 1, none⟩)) (y_fieldAddr (o' := 1) rfl Try.underlying89 rfl Try.sizeOf2 (by decide) rfl) rfl ?_
      refine x_y (v := .int .i64 (v.toInt)) (y_load1 rfl Try.isAgg2 (own1 (.t (.t (.t (.t (.t (.t .h)))))) rfl)) rfl ?_
      refine x_y (v := .int .i64 (((doneC (chkB k l1 l2 l3) l2 nn v)).toInt)) (y_call (args := #[.agg #[.int .i64 k, .slice a1 n1 c1, .slice a2 n2 c2, .slice a3 n3 c3], .int .i64 (nn.toInt), .int .i64 (v.toInt)]) (v := .int .i64 (((doneC (chkB k l1 l2 l3) l2 nn v)).toInt)) Try.call85 (ev3 rfl rfl rfl) (fun w hs => fold_c k a1 a2 a3 n1 c1 n2 c2 n3 c3 l1 l2 l3 nn v w hn1 ((oldR hr1) w hs) (by omega) hn2 ((oldR hr2) w hs) (by omega) hn3 ((oldR hr3) w hs) (by omega))) rfl ?_
      refine x_y (v := .bool (decide ((doneC (chkB k l1 l2 l3) l2 nn v) = (doneC (chkB k l1 l2 l3) l2 nn v)))) (y_eql (a := ((doneC (chkB k l1 l2 l3) l2 nn v)).toInt) (b := ((doneC (chkB k l1 l2 l3) l2 nn v)).toInt) (c := decide ((doneC (chkB k l1 l2 l3) l2 nn v) = (doneC (chkB k l1 l2 l3) l2 nn v))) rfl rfl (i_eql _ _)) rfl ?_
      refine x_y (v := .bool (decide ((doneC (chkB k l1 l2 l3) l2 nn v) = (doneC (chkB k l1 l2 l3) l2 nn v)))) (y_move rfl) rfl ?_
      refine x_gy (y_move rfl) rfl rfl rfl rfl (b' := decide ((doneC (chkB k l1 l2 l3) l2 nn v) = (doneC (chkB k l1 l2 l3) l2 nn v))) rfl (decide_eq_true rfl) ?_
      refine x_gy (y_move rfl) rfl rfl rfl rfl (b' := decide ((doneC (chkB k l1 l2 l3) l2 nn v) = (doneC (chkB k l1 l2 l3) l2 nn v))) rfl (decide_eq_true rfl) ?_
      refine x_gy (y_call (args := #[.slice a_55 ((mapC (chkB k l1 l2 l3) k l1 nn u v).length) c_56, .slice a_59 ((mapC (chkB k l1 l2 l3) k l1 nn u v).length) c_60]) (v := .bool (decide ((mapC (chkB k l1 l2 l3) k l1 nn u v) = (mapC (chkB k l1 l2 l3) k l1 nn u v)))) Try.call77 (ev2 rfl rfl) (fun w hs => plain_c a_55 a_59 ((mapC (chkB k l1 l2 l3) k l1 nn u v).length) c_56 ((mapC (chkB k l1 l2 l3) k l1 nn u v).length) c_60 (mapC (chkB k l1 l2 l3) k l1 nn u v) (mapC (chkB k l1 l2 l3) k l1 nn u v) w rfl rfl (oslR (.t .h) w hs) (oslR .h w hs) (by omega) (by omega))) rfl rfl rfl rfl (b' := decide ((doneC (chkB k l1 l2 l3) l2 nn v) = (doneC (chkB k l1 l2 l3) l2 nn v))) rfl (decide_eq_true rfl) ?_
      refine x_y (v := .bool (decide ((mapC (chkB k l1 l2 l3) k l1 nn u v) = (mapC (chkB k l1 l2 l3) k l1 nn u v)))) (y_pickT (b := decide ((doneC (chkB k l1 l2 l3) l2 nn v) = (doneC (chkB k l1 l2 l3) l2 nn v))) (v := .bool (decide ((mapC (chkB k l1 l2 l3) k l1 nn u v) = (mapC (chkB k l1 l2 l3) k l1 nn u v)))) rfl (decide_eq_true rfl) rfl) rfl ?_
      refine x_y (v := .bool (decide ((mapC (chkB k l1 l2 l3) k l1 nn u v) = (mapC (chkB k l1 l2 l3) k l1 nn u v)))) (y_assign rfl) rfl ?_
      refine x_nil ?_
      refine thenS_n ?_
      refine wpS_seq ?_
      refine wpS_region ?_
      refine s_y (v := .bool true) (y_call (args := #[]) (v := .bool true) Try.call82 ev0 (fun w hs => awake11_c w)) rfl ?_
      refine s_y (v := .bool true) (y_move rfl) rfl ?_
      refine s_gy (y_move rfl) rfl rfl rfl rfl rfl rfl ?_
      refine s_y (v := .bool (decide ((mapC (chkB k l1 l2 l3) k l1 nn u v) = (mapC (chkB k l1 l2 l3) k l1 nn u v)))) (y_pickT (v := .bool (decide ((mapC (chkB k l1 l2 l3) k l1 nn u v) = (mapC (chkB k l1 l2 l3) k l1 nn u v)))) rfl rfl rfl) rfl ?_
      refine s_y (v := .bool (decide ((mapC (chkB k l1 l2 l3) k l1 nn u v) = (mapC (chkB k l1 l2 l3) k l1 nn u v)))) (y_move rfl) rfl ?_
      refine s_gy (y_fieldAddr (o' := 1) rfl Try.underlying84 rfl Try.sizeOf82 (by decide) rfl) rfl rfl rfl rfl (b' := decide ((mapC (chkB k l1 l2 l3) k l1 nn u v) = (mapC (chkB k l1 l2 l3) k l1 nn u v))) rfl (decide_eq_true rfl) ?_
      refine s_gy (y_load1 rfl Try.isAgg82 (own1 (.t (.t .h)) rfl)) rfl rfl rfl rfl (b' := decide ((mapC (chkB k l1 l2 l3) k l1 nn u v) = (mapC (chkB k l1 l2 l3) k l1 nn u v))) rfl (decide_eq_true rfl) ?_
      refine s_gy (y_fieldAddr (o' := 1) rfl Try.underlying84 rfl Try.sizeOf82 (by decide) rfl) rfl rfl rfl rfl (b' := decide ((mapC (chkB k l1 l2 l3) k l1 nn u v) = (mapC (chkB k l1 l2 l3) k l1 nn u v))) rfl (decide_eq_true rfl) ?_
      refine s_gy (y_load1 rfl Try.isAgg82 (own1 (.t (.t (.t (.t (.t (.t (.t .h))))))) rfl)) rfl rfl rfl rfl (b' := decide ((mapC (chkB k l1 l2 l3) k l1 nn u v) = (mapC (chkB k l1 l2 l3) k l1 nn u v))) rfl (decide_eq_true rfl) ?_
      refine s_gy (y_buildL (m := [(1, .int .i64 71)]) (vs := #[.int .i64 0, .int .i64 71, .int .i64 0, .int .i64 0, .int .i64 0, .int .i64 0]) (evc rfl evn) (fun w => by kernel_rfl)) rfl rfl rfl rfl (b' := decide ((mapC (chkB k l1 l2 l3) k l1 nn u v) = (mapC (chkB k l1 l2 l3) k l1 nn u v))) rfl (decide_eq_true rfl) ?_
      refine s_gy (y_call (args := #[.slice (some ⟨b_49, 0, none⟩) n1 (n1 + 3), .slice a1 n1 c1, .agg #[.int .i64 0, .int .i64 71, .int .i64 0, .int .i64 0, .int .i64 0, .int .i64 0]]) (v := .bool true) Try.call88 (ev3 rfl rfl rfl) (fun w hs => keptO_c b_49 a1 n1 c1 l1 (Opc.mk 0 71 0 0 0 0) w hn1 ((oldR hr1) w hs) (by omega) (oslR (.t (.t (.t (.t (.t .h))))) w hs))) rfl rfl rfl rfl (b' := decide ((mapC (chkB k l1 l2 l3) k l1 nn u v) = (mapC (chkB k l1 l2 l3) k l1 nn u v))) rfl (decide_eq_true rfl) ?_
      refine s_y (v := .bool true) (y_pickT (b := decide ((mapC (chkB k l1 l2 l3) k l1 nn u v) = (mapC (chkB k l1 l2 l3) k l1 nn u v))) (v := .bool true) rfl (decide_eq_true rfl) rfl) rfl ?_
      refine s_y (v := .bool true) (y_move rfl) rfl ?_
      refine s_gy (y_fieldAddr (o' := 2) rfl Try.underlying84 rfl Try.sizeOf82 (by decide) rfl) rfl rfl rfl rfl rfl rfl ?_
      refine s_gy (y_load1 rfl Try.isAgg82 (own1 (.t (.t .h)) rfl)) rfl rfl rfl rfl rfl rfl ?_
      refine s_gy (y_fieldAddr (o' := 2) rfl Try.underlying84 rfl Try.sizeOf82 (by decide) rfl) rfl rfl rfl rfl rfl rfl ?_
      refine s_gy (y_load1 rfl Try.isAgg82 (own1 (.t (.t (.t (.t (.t (.t (.t .h))))))) rfl)) rfl rfl rfl rfl rfl rfl ?_
      refine s_gy (y_buildL (m := [(1, .int .i64 71)]) (vs := #[.int .i64 0, .int .i64 71, .int .i64 0, .int .i64 0, .int .i64 0, .int .i64 0]) (evc rfl evn) (fun w => by kernel_rfl)) rfl rfl rfl rfl rfl rfl ?_
      refine s_gy (y_call (args := #[.slice (some ⟨b_51, 0, none⟩) n2 (n2 + 3), .slice a2 n2 c2, .agg #[.int .i64 0, .int .i64 71, .int .i64 0, .int .i64 0, .int .i64 0, .int .i64 0]]) (v := .bool true) Try.call88 (ev3 rfl rfl rfl) (fun w hs => keptO_c b_51 a2 n2 c2 l2 (Opc.mk 0 71 0 0 0 0) w hn2 ((oldR hr2) w hs) (by omega) (oslR (.t (.t (.t (.t .h)))) w hs))) rfl rfl rfl rfl rfl rfl ?_
      refine s_y (v := .bool true) (y_pickT (v := .bool true) rfl rfl rfl) rfl ?_
      refine s_y (v := .bool true) (y_move rfl) rfl ?_
      refine s_gy (y_fieldAddr (o' := 3) rfl Try.underlying84 rfl Try.sizeOf82 (by decide) rfl) rfl rfl rfl rfl rfl rfl ?_
      refine s_gy (y_load1 rfl Try.isAgg82 (own1 (.t (.t .h)) rfl)) rfl rfl rfl rfl rfl rfl ?_
      refine s_gy (y_fieldAddr (o' := 3) rfl Try.underlying84 rfl Try.sizeOf82 (by decide) rfl) rfl rfl rfl rfl rfl rfl ?_
      refine s_gy (y_load1 rfl Try.isAgg82 (own1 (.t (.t (.t (.t (.t (.t (.t .h))))))) rfl)) rfl rfl rfl rfl rfl rfl ?_
      refine s_gy (y_buildL (m := [(1, .int .i64 71)]) (vs := #[.int .i64 0, .int .i64 71, .int .i64 0, .int .i64 0, .int .i64 0, .int .i64 0]) (evc rfl evn) (fun w => by kernel_rfl)) rfl rfl rfl rfl rfl rfl ?_
      refine s_gy (y_call (args := #[.slice (some ⟨b_53, 0, none⟩) n3 (n3 + 3), .slice a3 n3 c3, .agg #[.int .i64 0, .int .i64 71, .int .i64 0, .int .i64 0, .int .i64 0, .int .i64 0]]) (v := .bool true) Try.call88 (ev3 rfl rfl rfl) (fun w hs => keptO_c b_53 a3 n3 c3 l3 (Opc.mk 0 71 0 0 0 0) w hn3 ((oldR hr3) w hs) (by omega) (oslR (.t (.t (.t .h))) w hs))) rfl rfl rfl rfl rfl rfl ?_
      refine s_y (v := .bool true) (y_pickT (v := .bool true) rfl rfl rfl) rfl ?_
      refine s_y (v := .bool true) (y_assign rfl) rfl ?_
      refine wpL_nil ?_
      refine thenS_n ?_
      refine wpS_ret ?_
      refine fin1 (v := .bool true) (.inr rfl) (.nil) Try.results21 rfl ?_
      exact fun w' hs => ⟨rfl, hs⟩

end Go.Proofs.Ytldkjjnjdjfipaa
