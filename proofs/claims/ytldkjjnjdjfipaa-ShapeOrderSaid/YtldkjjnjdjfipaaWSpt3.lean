/- Spots compared; the last spots by the reference; walked. -/
import Derived.Test.YtldkjjnjdjfipaaWSpt1
namespace Go.Proofs.Ytldkjjnjdjfipaa
open Go Go.RowKit
set_option linter.unusedVariables false
set_option linter.unusedSimpArgs false
set_option maxRecDepth 10000
set_option maxHeartbeats 1000000

theorem equalS (w : World) (a b : Spot) : (Op.equal 144 (.agg #[.int .i64 a.s0, .int .i64 a.s1, .int .i64 a.s2]) (.agg #[.int .i64 b.s0, .int .i64 b.s1, .int .i64 b.s2])).run Try.prog w = .ok (decide (a = b)) w := by
  have e : decide (a = b) = (decide (a.s0 = b.s0) && (decide (a.s1 = b.s1) && decide (a.s2 = b.s2))) := by
    rw [Bool.eq_iff_iff]
    cases a; cases b
    simp
  rw [e]
  simp [go_sem, Op.equal, Op.maxDepth]
  by_cases h0 : a.s0 = b.s0 <;> by_cases h1 : a.s1 = b.s1 <;> by_cases h2 : a.s2 = b.s2 <;> simp [h0, h1, h2]

theorem plain1S_c (a b : Spot) (w : World) : Pure Try.prog 202 #[.agg #[.int .i64 (a.s0), .int .i64 (a.s1), .int .i64 (a.s2)], .agg #[.int .i64 (b.s0), .int .i64 (b.s1), .int .i64 (b.s2)]] w (.bool ((decide (a = b)))) := by
  refine calls_S (n := 8) (σ0 := (upd (upd fr0 0 (.agg #[.int .i64 (a.s0), .int .i64 (a.s1), .int .i64 (a.s2)])) 1 (.agg #[.int .i64 (b.s0), .int .i64 (b.s1), .int .i64 (b.s2)]))) (D := []) (A := []) Try.func202 rfl Try.ntmps202 rfl (a2_fr _ _) (SH.start w) ?_
  refine wpS_seq ?_
  refine wpS_region ?_
  refine s_e rfl ?_
  refine e_box (v := .agg #[.int .i64 (a.s0), .int .i64 (a.s1), .int .i64 (a.s2)]) (l := [.int .i64 (a.s0), .int .i64 (a.s1), .int .i64 (a.s2)]) rfl rfl ?_
  intro b_1
  refine s_e rfl ?_
  refine e_box (v := .agg #[.int .i64 (b.s0), .int .i64 (b.s1), .int .i64 (b.s2)]) (l := [.int .i64 (b.s0), .int .i64 (b.s1), .int .i64 (b.s2)]) rfl rfl ?_
  intro b_2
  refine s_y (v := .bool false) (y_assign rfl) rfl ?_
  refine wpL_nil ?_
  refine thenS_n ?_
  refine wpS_seq ?_
  refine wpS_region ?_
  refine s_y (v := .agg #[.int .i64 (a.s0), .int .i64 (a.s1), .int .i64 (a.s2)]) (y_loadN (vs := [.int .i64 (a.s0), .int .i64 (a.s1), .int .i64 (a.s2)]) rfl Try.isAgg144 Try.sizeOf144 (ownN (.t .h) rfl)) rfl ?_
  refine s_y (v := .agg #[.int .i64 (b.s0), .int .i64 (b.s1), .int .i64 (b.s2)]) (y_loadN (vs := [.int .i64 (b.s0), .int .i64 (b.s1), .int .i64 (b.s2)]) rfl Try.isAgg144 Try.sizeOf144 (ownN .h rfl)) rfl ?_
  refine s_y (v := .bool (decide (a = b))) (y_eqlS (a := #[.int .i64 (a.s0), .int .i64 (a.s1), .int .i64 (a.s2)]) (b := #[.int .i64 (b.s0), .int .i64 (b.s1), .int .i64 (b.s2)]) (c := decide (a = b)) Try.eqGuardType144 (fun w => equalS w a b) rfl rfl) rfl ?_
  refine s_y (v := .bool (decide (a = b))) (y_assign rfl) rfl ?_
  refine wpL_nil ?_
  refine thenS_n ?_
  refine wpS_ret ?_
  refine fin1 (M := []) (v := .bool (decide (a = b))) (.inr rfl) (.nil) Try.results202 rfl ?_
  exact fun w' hs => ⟨rfl, hs⟩

theorem hsameS_c (ax ay : Option Addr) (nx ny cx cy : Nat) (x y : List Spot) (w : World) (hnx : x.length = nx) (hrx : Rds w ax (x.flatMap spotV)) (hbx : nx ≤ 1000000) (hny : y.length = ny) (hry : Rds w ay (y.flatMap spotV)) (hby : ny ≤ 1000000) : Pure Try.prog 201 #[.slice ax nx cx, .slice ay ny cy, .func (.func 202) #[] #[]] w (.bool (decide (x = y))) := by
  refine calls_S (n := 30) (σ0 := (upd (upd (upd fr0 0 (.slice ax nx cx)) 1 (.slice ay ny cy)) 2 (.func (.func 202) #[] #[]))) (D := []) (A := []) Try.func201 rfl Try.ntmps201 rfl (a3_fr _ _ _) (SH.start w) ?_
  refine wpS_seq ?_
  refine wpS_region ?_
  refine s_y (v := .bool false) (y_assign rfl) rfl ?_
  refine wpL_nil ?_
  refine thenS_n ?_
  refine wpS_seq ?_
  refine wpS_seq ?_
  refine wpS_region ?_
  refine s_y (v := .slice ax nx cx) (y_move rfl) rfl ?_
  refine s_y (v := .int .i64 (((nx : Nat) : Int))) (y_len (ty' := 0) (at_ := #[]) rfl Try.underlying58) rfl ?_
  refine s_y (v := .slice ay ny cy) (y_move rfl) rfl ?_
  refine s_y (v := .int .i64 (((ny : Nat) : Int))) (y_len (ty' := 0) (at_ := #[]) rfl Try.underlying58) rfl ?_
  refine s_y (v := .bool (decide (nx ≠ ny))) (y_neq (a := ((nx : Nat) : Int)) (b := ((ny : Nat) : Int)) (c := decide (nx ≠ ny)) rfl rfl (decide_eq_decide.2 (by omega))) rfl ?_
  refine wpL_nil ?_
  refine thenS_n ?_
  refine wpS_cond (t := decide (nx ≠ ny)) rfl (fun b1 => ?_) (fun b1 => ?_)
  · -- decide (nx ≠ ny) true
    have p1 := of_decide_eq_true b1
    refine wpS_seq ?_
    refine wpS_region ?_
    refine s_y (v := .bool false) (y_assign rfl) rfl ?_
    refine wpL_nil ?_
    refine thenS_n ?_
    refine wpS_ret ?_
    refine thenS_r ?_
    refine fin1 (M := []) (v := .bool false) (.inr rfl) (.nil) Try.results201 rfl ?_
    exact fun w' hs => ⟨congrArg (fun b => Ending.returned (Value.bool b)) (by exact (decide_eq_false fun h => by subst h; omega).symm), hs⟩
  · -- decide (nx ≠ ny) false
    have p1 := of_decide_eq_false b1
    refine wpS_skip ?_
    refine thenS_n ?_
    refine wpS_seq ?_
    refine wpS_seq ?_
    refine wpS_region ?_
    refine s_y (v := .int .i64 0) (y_assign rfl) rfl ?_
    refine wpL_nil ?_
    refine thenS_n ?_
    refine wpS_block ?_
    refine wpS_loop (fun mez ds σ L => ∃ i : Nat, mez = nx - i ∧ (i ≤ nx) ∧ (x.take i = y.take i) ∧ ds = [] ∧ σ 0 = .slice ax nx cx ∧ σ 1 = .slice ay ny cy ∧ σ 2 = .func (.func 202) #[] #[] ∧ σ 7 = .int .i64 (((i : Nat) : Int)) ∧ Ent L []) (m0 := nx - 0) ⟨0, rfl, by omega, (by simp), rfl, rfl, rfl, rfl, rfl, .nil⟩ ?_
    rintro mez ds σ L ⟨i, hm_2, hf0_2, hf1_2, rfl, h0_2, h1_2, h2_2, h7_2, hE_2⟩
    refine wpS_ent hE_2 ?_; clear hE_2
    refine wpS_seq ?_
    refine wpS_seq ?_
    refine wpS_region ?_
    refine s_y (v := .int .i64 (((i : Nat) : Int))) (y_move h7_2) rfl ?_
    refine s_y (v := .slice ax nx cx) (y_move h0_2) rfl ?_
    refine s_y (v := .int .i64 (((nx : Nat) : Int))) (y_len (ty' := 0) (at_ := #[]) rfl Try.underlying58) rfl ?_
    refine s_y (v := .bool (decide (i < nx))) (y_lss (a := ((i : Nat) : Int)) (b := ((nx : Nat) : Int)) (c := decide (i < nx)) rfl rfl (decide_eq_decide.2 (by omega))) rfl ?_
    refine wpL_nil ?_
    refine thenS_n ?_
    refine wpS_cond (t := decide (i < nx)) rfl (fun b3 => ?_) (fun b3 => ?_)
    · -- decide (i < nx) true
      have p3 := of_decide_eq_true b3
      refine wpS_skip ?_
      refine thenS_n ?_
      refine wpS_seq ?_
      refine wpS_block ?_
      refine wpS_seq ?_
      refine wpS_lex (by kernel_rfl) (by kernel_rfl) ?_
      refine x_y (v := .func (.func 202) #[] #[]) (y_move h2_2) rfl ?_
      refine x_y (v := .slice ax nx cx) (y_move h0_2) rfl ?_
      refine x_y (v := .int .i64 (((i : Nat) : Int))) (y_move h7_2) rfl ?_
      refine x_y (v := .pointer (some ⟨aB ax, aO ax + i * 3, none⟩)) (y_idx (o := i * 3) rfl rfl Try.underlying58 Try.sizeOf144 (oldR hrx) ((fl_len spotV_len _).trans (by first | omega | (simp only [List.length_set, List.length_take, List.length_drop]; done) | (simp only [List.length_set, List.length_take, List.length_drop]; omega))) (by decide) (by omega) (by omega) (by omega)) rfl ?_
      refine x_y (v := .agg #[.int .i64 ((x.getD i default).s0), .int .i64 ((x.getD i default).s1), .int .i64 ((x.getD i default).s2)]) (y_loadN (vs := spotV (x.getD i default)) rfl Try.isAgg144 Try.sizeOf144 (rdN (oldR hrx) (fl_getN spotV_len x i (by first | omega | (simp only [List.length_set, List.length_take, List.length_drop]; done) | (simp only [List.length_set, List.length_take, List.length_drop]; omega))))) rfl ?_
      refine x_y (v := .slice ay ny cy) (y_move h1_2) rfl ?_
      refine x_y (v := .int .i64 (((i : Nat) : Int))) (y_move h7_2) rfl ?_
      refine x_y (v := .pointer (some ⟨aB ay, aO ay + i * 3, none⟩)) (y_idx (o := i * 3) rfl rfl Try.underlying58 Try.sizeOf144 (oldR hry) ((fl_len spotV_len _).trans (by first | omega | (simp only [List.length_set, List.length_take, List.length_drop]; done) | (simp only [List.length_set, List.length_take, List.length_drop]; omega))) (by decide) (by omega) (by omega) (by omega)) rfl ?_
      refine x_y (v := .agg #[.int .i64 ((y.getD i default).s0), .int .i64 ((y.getD i default).s1), .int .i64 ((y.getD i default).s2)]) (y_loadN (vs := spotV (y.getD i default)) rfl Try.isAgg144 Try.sizeOf144 (rdN (oldR hry) (fl_getN spotV_len y i (by first | omega | (simp only [List.length_set, List.length_take, List.length_drop]; done) | (simp only [List.length_set, List.length_take, List.length_drop]; omega))))) rfl ?_
      refine x_y (v := .bool (decide ((x.getD i default) = (y.getD i default)))) (y_callV (cap := #[]) (args := #[.agg #[.int .i64 ((x.getD i default).s0), .int .i64 ((x.getD i default).s1), .int .i64 ((x.getD i default).s2)], .agg #[.int .i64 ((y.getD i default).s0), .int .i64 ((y.getD i default).s1), .int .i64 ((y.getD i default).s2)]]) (args' := #[.agg #[.int .i64 ((x.getD i default).s0), .int .i64 ((x.getD i default).s1), .int .i64 ((x.getD i default).s2)], .agg #[.int .i64 ((y.getD i default).s0), .int .i64 ((y.getD i default).s1), .int .i64 ((y.getD i default).s2)]]) (v := .bool (decide ((x.getD i default) = (y.getD i default)))) rfl Try.call202 (ev2 rfl rfl) rfl (fun w hs => plain1S_c (x.getD i default) (y.getD i default) w)) rfl ?_
      refine x_y (v := .bool (!(decide ((x.getD i default) = (y.getD i default))))) (y_not (b := decide ((x.getD i default) = (y.getD i default))) rfl) rfl ?_
      refine x_nil ?_
      refine thenS_n ?_
      refine wpS_cond (t := !(decide ((x.getD i default) = (y.getD i default)))) rfl (fun b4 => ?_) (fun b4 => ?_)
      · -- !(decide ((x.getD i default) = (y.getD i default))) true
        have b5 : (decide ((x.getD i default) = (y.getD i default))) = false := by simpa using b4
        have p5 := of_decide_eq_false b5
        refine wpS_seq ?_
        refine wpS_region ?_
        refine s_y (v := .bool false) (y_assign rfl) rfl ?_
        refine wpL_nil ?_
        refine thenS_n ?_
        refine wpS_ret ?_
        refine blockS_r ?_
        refine thenS_r ?_
        refine thenS_r ?_
        refine blockS_r ?_
        refine thenS_r ?_
        refine fin1 (M := []) (v := .bool false) (.inr rfl) (.nil) Try.results201 rfl ?_
        exact fun w' hs => ⟨congrArg (fun b => Ending.returned (Value.bool b)) (by exact (gsame_not (i := i) (by assumption)).symm), hs⟩
      · -- !(decide ((x.getD i default) = (y.getD i default))) false
        have b6 : (decide ((x.getD i default) = (y.getD i default))) = true := by simpa using b4
        have p6 := of_decide_eq_true b6
        refine wpS_skip ?_
        refine blockS_n ?_
        refine thenS_n ?_
        refine wpS_region ?_
        refine s_y (v := .int .i64 (((i : Nat) : Int))) (y_move h7_2) rfl ?_
        refine s_y (v := .int .i64 ((((i + 1) : Nat) : Int))) (y_add (a := ((i : Nat) : Int)) (b := 1) (c := (((i + 1) : Nat) : Int)) rfl rfl (wI (by omega) (by omega) (by omega))) rfl ?_
        refine s_y (v := .int .i64 ((((i + 1) : Nat) : Int))) (y_assign rfl) rfl ?_
        refine wpL_nil ?_
        refine thenS_n ?_
        exact ⟨_, by omega, ⟨(i + 1), rfl, by omega, (gsame_step (by omega) (by omega) (by assumption) (by assumption)), rfl, h0_2, h1_2, h2_2, rfl, .nil⟩⟩
    · -- decide (i < nx) false
      have p3 := of_decide_eq_false b3
      refine wpS_exit ?_
      refine thenS_x ?_
      refine thenS_x ?_
      refine blockS_h ?_
      refine thenS_n ?_
      refine wpS_seq ?_
      refine wpS_region ?_
      refine s_y (v := .bool true) (y_assign rfl) rfl ?_
      refine wpL_nil ?_
      refine thenS_n ?_
      refine wpS_ret ?_
      refine fin1 (M := []) (v := .bool true) (.inr rfl) (.nil) Try.results201 rfl ?_
      exact fun w' hs => ⟨congrArg (fun b => Ending.returned (Value.bool b)) (by exact (gsame_all (i := i) hnx hny (by omega) (by omega) (by assumption)).symm), hs⟩

theorem plainS_c (ax ay : Option Addr) (nx ny cx cy : Nat) (x y : List Spot) (w : World) (hnx : x.length = nx) (hrx : Rds w ax (x.flatMap spotV)) (hbx : nx ≤ 1000000) (hny : y.length = ny) (hry : Rds w ay (y.flatMap spotV)) (hby : ny ≤ 1000000) : Pure Try.prog 123 #[.slice ax nx cx, .slice ay ny cy] w (.bool ((decide (x = y)))) := by
  refine calls_S (n := 8) (σ0 := (upd (upd fr0 0 (.slice ax nx cx)) 1 (.slice ay ny cy))) (D := []) (A := []) Try.func123 rfl Try.ntmps123 rfl (a2_fr _ _) (SH.start w) ?_
  refine wpS_seq ?_
  refine wpS_region ?_
  refine s_y (v := .bool false) (y_assign rfl) rfl ?_
  refine wpL_nil ?_
  refine thenS_n ?_
  refine wpS_seq ?_
  refine wpS_region ?_
  refine s_y (v := .slice ax nx cx) (y_move rfl) rfl ?_
  refine s_y (v := .slice ay ny cy) (y_move rfl) rfl ?_
  refine s_y (v := .bool (decide (x = y))) (y_call (args := #[.slice ax nx cx, .slice ay ny cy, .func (.func 202) #[] #[]]) (v := .bool (decide (x = y))) Try.call201 (ev3 rfl rfl rfl) (fun w hs => hsameS_c ax ay nx ny cx cy x y w hnx ((oldR hrx) w hs) (by omega) hny ((oldR hry) w hs) (by omega))) rfl ?_
  refine s_y (v := .bool (decide (x = y))) (y_assign rfl) rfl ?_
  refine wpL_nil ?_
  refine thenS_n ?_
  refine wpS_ret ?_
  refine fin1 (M := []) (v := .bool (decide (x = y))) (.inr rfl) (.nil) Try.results123 rfl ?_
  exact fun w' hs => ⟨rfl, hs⟩

theorem rlast_c (p : Par) (hsm : Small p) (w : World) : MakesS Try.prog 132 #[.agg #[.int .i64 (p.n0), .int .i64 (p.n1), .int .i64 (p.n2), .int .i64 (p.n3)]] w [] spotV 3 144 (lastS p) := by
  refine calls_S (n := 25) (σ0 := (upd fr0 0 (.agg #[.int .i64 (p.n0), .int .i64 (p.n1), .int .i64 (p.n2), .int .i64 (p.n3)]))) (D := []) (A := []) Try.func132 rfl Try.ntmps132 rfl (a1_fr _) (SH.start w) ?_
  have h88 := hsm.h8
  have hq3 := ofP_3 p
  refine wpS_seq ?_
  refine wpS_region ?_
  refine s_e rfl ?_
  refine e_box (v := .agg #[.int .i64 (p.n0), .int .i64 (p.n1), .int .i64 (p.n2), .int .i64 (p.n3)]) (l := [.int .i64 (p.n0), .int .i64 (p.n1), .int .i64 (p.n2), .int .i64 (p.n3)]) rfl rfl ?_
  intro b_1
  refine s_y (v := .slice none 0 0) (y_assign rfl) rfl ?_
  refine wpL_nil ?_
  refine thenS_n ?_
  refine wpS_seq ?_
  refine wpS_region ?_
  refine s_y (v := .agg #[.int .i64 (p.n0), .int .i64 (p.n1), .int .i64 (p.n2), .int .i64 (p.n3)]) (y_loadN (vs := [.int .i64 (p.n0), .int .i64 (p.n1), .int .i64 (p.n2), .int .i64 (p.n3)]) rfl Try.isAgg53 Try.sizeOf53 (ownN .h rfl)) rfl ?_
  refine s_y (v := .tuple #[.int .i64 (bk p), .int .i64 ((((sl p) : Nat) : Int))]) (y_call (args := #[.agg #[.int .i64 (p.n0), .int .i64 (p.n1), .int .i64 (p.n2), .int .i64 (p.n3)]]) (v := .tuple #[.int .i64 (bk p), .int .i64 ((((sl p) : Nat) : Int))]) Try.call63 (ev1 rfl) (fun w hs => rblocks_c p w)) rfl ?_
  refine s_y (v := .tuple #[.int .i64 (bk p), .int .i64 ((((sl p) : Nat) : Int))]) (y_move rfl) rfl ?_
  refine s_y (v := .int .i64 (bk p)) (y_extract (v := .int .i64 (bk p)) rfl rfl) rfl ?_
  refine s_y (v := .int .i64 ((((sl p) : Nat) : Int))) (y_extract (v := .int .i64 ((((sl p) : Nat) : Int))) rfl rfl) rfl ?_
  refine s_y (v := .int .i64 (bk p)) (y_assign rfl) rfl ?_
  refine s_y (v := .int .i64 ((((sl p) : Nat) : Int))) (y_assign rfl) rfl ?_
  refine wpL_nil ?_
  refine thenS_n ?_
  refine wpS_seq ?_
  refine wpS_region ?_
  refine s_y (v := .slice none 0 0) (y_assign rfl) rfl ?_
  refine wpL_nil ?_
  refine thenS_n ?_
  refine wpS_seq ?_
  refine wpS_seq ?_
  refine wpS_region ?_
  refine s_y (v := .int .i64 0) (y_assign rfl) rfl ?_
  refine wpL_nil ?_
  refine thenS_n ?_
  refine wpS_block ?_
  refine wpS_nil0 3 144 ?_
  refine wpS_loop (fun mez ds σ L => ∃ i : Nat, ∃ a1 : Option Addr, ∃ c1 : Nat, mez = sl p - i ∧ (i ≤ sl p) ∧ ds = [] ∧ σ 4 = .int .i64 ((((sl p) : Nat) : Int)) ∧ σ 5 = .slice a1 ((lastTo p i).length) c1 ∧ σ 6 = .int .i64 (((i : Nat) : Int)) ∧ Ent L [osl a1 c1 ((lastTo p i).length) 3 144 ((lastTo p i).flatMap spotV), cel b_1 53 [.int .i64 (p.n0), .int .i64 (p.n1), .int .i64 (p.n2), .int .i64 (p.n3)]]) (m0 := sl p - 0) ⟨0, none, 0, rfl, by omega, rfl, rfl, rfl, rfl, .p .h (.p .h .nil)⟩ ?_
  rintro mez ds σ L ⟨i, a1, c1, hm_2, hf0_2, rfl, h4_2, h5_2, h6_2, hE_2⟩
  refine wpS_ent hE_2 ?_; clear hE_2
  refine wpS_seq ?_
  refine wpS_seq ?_
  refine wpS_region ?_
  refine s_y (v := .int .i64 (((i : Nat) : Int))) (y_move h6_2) rfl ?_
  refine s_y (v := .int .i64 ((((sl p) : Nat) : Int))) (y_move h4_2) rfl ?_
  refine s_y (v := .bool (decide (i < (sl p)))) (y_lss (a := ((i : Nat) : Int)) (b := (((sl p) : Nat) : Int)) (c := decide (i < (sl p))) rfl rfl (decide_eq_decide.2 (by omega))) rfl ?_
  refine wpL_nil ?_
  refine thenS_n ?_
  refine wpS_cond (t := decide (i < (sl p))) rfl (fun b3 => ?_) (fun b3 => ?_)
  · -- decide (i < (sl p)) true
    have p3 := of_decide_eq_true b3
    refine wpS_skip ?_
    refine thenS_n ?_
    refine wpS_seq ?_
    refine wpS_block ?_
    refine wpS_region ?_
    refine s_y (v := .slice a1 ((lastTo p i).length) c1) (y_move h5_2) rfl ?_
    refine s_y (v := .int .i64 ((((sl p) : Nat) : Int))) (y_move h4_2) rfl ?_
    refine s_y (v := .int .i64 ((((rnd ((((sl p) : Nat) : Int))) : Nat) : Int))) (y_call (args := #[.int .i64 ((((sl p) : Nat) : Int))]) (v := .int .i64 ((((rnd ((((sl p) : Nat) : Int))) : Nat) : Int))) Try.call56 (ev1 rfl) (fun w hs => rrnd_c ((((sl p) : Nat) : Int)) (by omega) (by omega) w)) rfl ?_
    refine s_y (v := .int .i64 (((i : Nat) : Int))) (y_move h6_2) rfl ?_
    refine s_y (v := .agg #[.int .i64 ((behind 5 3 (((rnd ((((sl p) : Nat) : Int))) : Nat) : Int) ((i : Nat) : Int)).s0), .int .i64 ((behind 5 3 (((rnd ((((sl p) : Nat) : Int))) : Nat) : Int) ((i : Nat) : Int)).s1), .int .i64 ((behind 5 3 (((rnd ((((sl p) : Nat) : Int))) : Nat) : Int) ((i : Nat) : Int)).s2)]) (y_call (args := #[.int .i64 3, .int .i64 5, .int .i64 ((((rnd ((((sl p) : Nat) : Int))) : Nat) : Int)), .int .i64 (((i : Nat) : Int))]) (v := .agg #[.int .i64 ((behind 5 3 (((rnd ((((sl p) : Nat) : Int))) : Nat) : Int) ((i : Nat) : Int)).s0), .int .i64 ((behind 5 3 (((rnd ((((sl p) : Nat) : Int))) : Nat) : Int) ((i : Nat) : Int)).s1), .int .i64 ((behind 5 3 (((rnd ((((sl p) : Nat) : Int))) : Nat) : Int) ((i : Nat) : Int)).s2)]) Try.call203 (ev4 rfl rfl rfl rfl) (fun w hs => rbehind_c 3 5 (((rnd ((((sl p) : Nat) : Int))) : Nat) : Int) ((i : Nat) : Int) w)) rfl ?_
    refine s_e rfl ?_
    refine e_bsliceL (e := 144) (m := [(0, .agg #[.int .i64 ((behind 5 3 (((rnd ((((sl p) : Nat) : Int))) : Nat) : Int) ((i : Nat) : Int)).s0), .int .i64 ((behind 5 3 (((rnd ((((sl p) : Nat) : Int))) : Nat) : Int) ((i : Nat) : Int)).s1), .int .i64 ((behind 5 3 (((rnd ((((sl p) : Nat) : Int))) : Nat) : Int) ((i : Nat) : Int)).s2)])]) (l := [.int .i64 ((behind 5 3 (((rnd ((((sl p) : Nat) : Int))) : Nat) : Int) ((i : Nat) : Int)).s0), .int .i64 ((behind 5 3 (((rnd ((((sl p) : Nat) : Int))) : Nat) : Int) ((i : Nat) : Int)).s1), .int .i64 ((behind 5 3 (((rnd ((((sl p) : Nat) : Int))) : Nat) : Int) ((i : Nat) : Int)).s2)]) (evc rfl evn) (fun w => by kernel_rfl) ?_
    intro b_4
    refine s_e rfl ?_
    refine e_appendL (enc := spotV) (xs := ((lastTo p i) : List Spot)) (ns := ([(behind 5 3 (((rnd ((((sl p) : Nat) : Int))) : Nat) : Int) ((i : Nat) : Int))] : List Spot)) (zs := (lastTo p (i + 1))) (bytes := 24) spotV_len spotV_one Try.underlying58 (i := Try.t144) rfl rfl rfl rfl rfl (by decide) rfl rfl (by first | rfl | omega) (by first | rfl | omega) (.t .h) (fun w hs => celR .h w hs) (by rw [← ofP_3 p]; exact lastTo_next p i) (by rw [lastTo_len]; omega) (by rw [lastTo_len]; omega) ?_
    intro a_5 c_6
    refine s_y (v := .slice a_5 ((lastTo p (i + 1)).length) c_6) (y_assign rfl) rfl ?_
    refine wpL_nil ?_
    refine blockS_n ?_
    refine thenS_n ?_
    refine wpS_region ?_
    refine s_y (v := .int .i64 (((i : Nat) : Int))) (y_move h6_2) rfl ?_
    refine s_y (v := .int .i64 ((((i + 1) : Nat) : Int))) (y_add (a := ((i : Nat) : Int)) (b := 1) (c := (((i + 1) : Nat) : Int)) rfl rfl (wI (by omega) (by omega) (by omega))) rfl ?_
    refine s_y (v := .int .i64 ((((i + 1) : Nat) : Int))) (y_assign rfl) rfl ?_
    refine wpL_nil ?_
    refine thenS_n ?_
    exact ⟨_, by omega, ⟨(i + 1), a_5, c_6, rfl, by omega, rfl, h4_2, rfl, rfl, .p .h (.p (.t .h) .nil)⟩⟩
  · -- decide (i < (sl p)) false
    have p3 := of_decide_eq_false b3
    refine wpS_exit ?_
    refine thenS_x ?_
    refine thenS_x ?_
    refine blockS_h ?_
    refine thenS_n ?_
    refine wpS_seq ?_
    refine wpS_region ?_
    refine s_y (v := .slice a1 ((lastTo p i).length) c1) (y_move h5_2) rfl ?_
    refine s_y (v := .slice a1 ((lastTo p i).length) c1) (y_assign rfl) rfl ?_
    refine wpL_nil ?_
    refine thenS_n ?_
    refine wpS_ret ?_
    refine fin1 (M := [osl a1 c1 ((lastTo p i).length) 3 144 ((lastTo p i).flatMap spotV)]) (v := .slice a1 ((lastTo p i).length) c1) (.inr rfl) (.p .h .nil) Try.results132 rfl ?_
    exact fun w' hs => ⟨(a1, c1), by rw [show (lastS p) = (lastTo p i) from (by rw [show i = sl p by omega]; rfl)], by rw [show (lastS p) = (lastTo p i) from (by rw [show i = sl p by omega]; rfl)]; exact hs, trivial⟩

end Go.Proofs.Ytldkjjnjdjfipaa
