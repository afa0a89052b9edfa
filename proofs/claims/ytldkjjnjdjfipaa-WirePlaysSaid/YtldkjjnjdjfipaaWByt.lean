/- The helpers on bytes, walked. -/
import Derived.Test.YtldkjjnjdjfipaaWWir1
namespace Go.Proofs.Ytldkjjnjdjfipaa
open Go Go.RowKit
set_option linter.unusedVariables false
set_option linter.unusedSimpArgs false
set_option maxRecDepth 10000
set_option maxHeartbeats 1000000

theorem y8w_eql (a b : UInt8) : decide (((a.toNat : Nat) : Int) = ((b.toNat : Nat) : Int)) = decide (a = b) := by rw [decide_eq_decide, Int.ofNat_inj, UInt8.toNat_inj]
theorem y8w_neq (a b : UInt8) : decide (((a.toNat : Nat) : Int) ≠ ((b.toNat : Nat) : Int)) = decide (a ≠ b) := by rw [decide_eq_decide, Ne, Ne, Int.ofNat_inj, UInt8.toNat_inj]

theorem plain1W_c (a b : UInt8) (w : World) : Pure Try.prog 223 #[.int .u8 (a.toNat), .int .u8 (b.toNat)] w (.bool ((decide (a = b)))) := by
  refine calls_S (n := 8) (σ0 := (upd (upd fr0 0 (.int .u8 (a.toNat))) 1 (.int .u8 (b.toNat)))) (D := []) (A := []) Try.func223 rfl Try.ntmps223 rfl (a2_fr _ _) (SH.start w) ?_
  refine wpS_seq ?_
  refine wpS_region ?_
  refine s_y (v := .bool false) (y_assign rfl) rfl ?_
  refine wpL_nil ?_
  refine thenS_n ?_
  refine wpS_seq ?_
  refine wpS_region ?_
  refine s_y (v := .int .u8 (a.toNat)) (y_move rfl) rfl ?_
  refine s_y (v := .int .u8 (b.toNat)) (y_move rfl) rfl ?_
  refine s_y (v := .bool (decide (a = b))) (y_eql (a := a.toNat) (b := b.toNat) (c := decide (a = b)) rfl rfl (y8w_eql _ _)) rfl ?_
  refine s_y (v := .bool (decide (a = b))) (y_assign rfl) rfl ?_
  refine wpL_nil ?_
  refine thenS_n ?_
  refine wpS_ret ?_
  refine fin1 (M := []) (v := .bool (decide (a = b))) (.inr rfl) (.nil) Try.results223 rfl ?_
  exact fun w' hs => ⟨rfl, hs⟩

theorem hsameW_c (ax ay : Option Addr) (nx ny cx cy : Nat) (x y : List UInt8) (w : World) (hnx : x.length = nx) (hrx : Rds w ax (x.flatMap byteV)) (hbx : nx ≤ 1000000) (hny : y.length = ny) (hry : Rds w ay (y.flatMap byteV)) (hby : ny ≤ 1000000) : Pure Try.prog 222 #[.slice ax nx cx, .slice ay ny cy, .func (.func 223) #[] #[]] w (.bool (decide (x = y))) := by
  refine calls_S (n := 30) (σ0 := (upd (upd (upd fr0 0 (.slice ax nx cx)) 1 (.slice ay ny cy)) 2 (.func (.func 223) #[] #[]))) (D := []) (A := []) Try.func222 rfl Try.ntmps222 rfl (a3_fr _ _ _) (SH.start w) ?_
  refine wpS_seq ?_
  refine wpS_region ?_
  refine s_y (v := .bool false) (y_assign rfl) rfl ?_
  refine wpL_nil ?_
  refine thenS_n ?_
  refine wpS_seq ?_
  refine wpS_seq ?_
  refine wpS_region ?_
  refine s_y (v := .slice ax nx cx) (y_move rfl) rfl ?_
  refine s_y (v := .int .i64 (((nx : Nat) : Int))) (y_len (ty' := 0) (at_ := #[]) rfl Try.underlying61) rfl ?_
  refine s_y (v := .slice ay ny cy) (y_move rfl) rfl ?_
  refine s_y (v := .int .i64 (((ny : Nat) : Int))) (y_len (ty' := 0) (at_ := #[]) rfl Try.underlying61) rfl ?_
  refine s_y (v := .bool (decide (nx ≠ ny))) (y_neq (a := ((nx : Nat) : Int)) (b := ((ny : Nat) : Int)) (c := decide (nx ≠ ny)) rfl rfl (decide_eq_decide.2 (by omega))) rfl ?_
  refine wpL_nil ?_
  refine thenS_n ?_
  refine wpS_cond (t := decide (nx ≠ ny)) rfl (fun b1 => ?_) (fun b1 => ?_)
  · -- decide (nx ≠ ny) true
    have p1 := of_decide_eq_true b1
    refine wpS_seq ?_
    refine wpS_region ?_
    refine s_y (v := .bool false) (y_assign rfl) rfl ?_
    refine wpL_nil ?_
    refine thenS_n ?_
    refine wpS_ret ?_
    refine thenS_r ?_
    refine fin1 (M := []) (v := .bool false) (.inr rfl) (.nil) Try.results222 rfl ?_
    exact fun w' hs => ⟨congrArg (fun b => Ending.returned (Value.bool b)) (by exact (decide_eq_false fun h => by subst h; omega).symm), hs⟩
  · -- decide (nx ≠ ny) false
    have p1 := of_decide_eq_false b1
    refine wpS_skip ?_
    refine thenS_n ?_
    refine wpS_seq ?_
    refine wpS_seq ?_
    refine wpS_region ?_
    refine s_y (v := .int .i64 0) (y_assign rfl) rfl ?_
    refine wpL_nil ?_
    refine thenS_n ?_
    refine wpS_block ?_
    refine wpS_loop (fun mez ds σ L => ∃ i : Nat, mez = nx - i ∧ (i ≤ nx) ∧ (x.take i = y.take i) ∧ ds = [] ∧ σ 0 = .slice ax nx cx ∧ σ 1 = .slice ay ny cy ∧ σ 2 = .func (.func 223) #[] #[] ∧ σ 7 = .int .i64 (((i : Nat) : Int)) ∧ Ent L []) (m0 := nx - 0) ⟨0, rfl, by omega, (by simp), rfl, rfl, rfl, rfl, rfl, .nil⟩ ?_
    rintro mez ds σ L ⟨i, hm_2, hf0_2, hf1_2, rfl, h0_2, h1_2, h2_2, h7_2, hE_2⟩
    refine wpS_ent hE_2 ?_; clear hE_2
    refine wpS_seq ?_
    refine wpS_seq ?_
    refine wpS_region ?_
    refine s_y (v := .int .i64 (((i : Nat) : Int))) (y_move h7_2) rfl ?_
    refine s_y (v := .slice ax nx cx) (y_move h0_2) rfl ?_
    refine s_y (v := .int .i64 (((nx : Nat) : Int))) (y_len (ty' := 0) (at_ := #[]) rfl Try.underlying61) rfl ?_
    refine s_y (v := .bool (decide (i < nx))) (y_lss (a := ((i : Nat) : Int)) (b := ((nx : Nat) : Int)) (c := decide (i < nx)) rfl rfl (decide_eq_decide.2 (by omega))) rfl ?_
    refine wpL_nil ?_
    refine thenS_n ?_
    refine wpS_cond (t := decide (i < nx)) rfl (fun b3 => ?_) (fun b3 => ?_)
    · -- decide (i < nx) true
      have p3 := of_decide_eq_true b3
      refine wpS_skip ?_
      refine thenS_n ?_
      refine wpS_seq ?_
      refine wpS_block ?_
      refine wpS_seq ?_
      refine wpS_lex (by kernel_rfl) (by kernel_rfl) ?_
      refine x_y (v := .func (.func 223) #[] #[]) (y_move h2_2) rfl ?_
      refine x_y (v := .slice ax nx cx) (y_move h0_2) rfl ?_
      refine x_y (v := .int .i64 (((i : Nat) : Int))) (y_move h7_2) rfl ?_
      refine x_y (v := .pointer (some ⟨aB ax, aO ax + i * 1, none⟩)) (y_idx (o := i * 1) rfl rfl Try.underlying61 Try.sizeOf5 (oldR hrx) ((fl_len byteV_len _).trans (by first | omega | (simp only [List.length_set, List.length_take, List.length_drop]; done) | (simp only [List.length_set, List.length_take, List.length_drop]; omega))) (by decide) (by omega) (by omega) (by omega)) rfl ?_
      refine x_y (v := .int .u8 ((x.getD i default).toNat)) (y_load1 (v := .int .u8 ((x.getD i default).toNat)) rfl Try.isAgg5 (rd1 (k := i * 1) (oldR hrx) (fl_get0 byteV_len x i (by first | omega | (simp only [List.length_set, List.length_take, List.length_drop]; done) | (simp only [List.length_set, List.length_take, List.length_drop]; omega)) rfl))) rfl ?_
      refine x_y (v := .slice ay ny cy) (y_move h1_2) rfl ?_
      refine x_y (v := .int .i64 (((i : Nat) : Int))) (y_move h7_2) rfl ?_
      refine x_y (v := .pointer (some ⟨aB ay, aO ay + i * 1, none⟩)) (y_idx (o := i * 1) rfl rfl Try.underlying61 Try.sizeOf5 (oldR hry) ((fl_len byteV_len _).trans (by first | omega | (simp only [List.length_set, List.length_take, List.length_drop]; done) | (simp only [List.length_set, List.length_take, List.length_drop]; omega))) (by decide) (by omega) (by omega) (by omega)) rfl ?_
      refine x_y (v := .int .u8 ((y.getD i default).toNat)) (y_load1 (v := .int .u8 ((y.getD i default).toNat)) rfl Try.isAgg5 (rd1 (k := i * 1) (oldR hry) (fl_get0 byteV_len y i (by first | omega | (simp only [List.length_set, List.length_take, List.length_drop]; done) | (simp only [List.length_set, List.length_take, List.length_drop]; omega)) rfl))) rfl ?_
      refine x_y (v := .bool (decide ((x.getD i default) = (y.getD i default)))) (y_callV (cap := #[]) (args := #[.int .u8 ((x.getD i default).toNat), .int .u8 ((y.getD i default).toNat)]) (args' := #[.int .u8 ((x.getD i default).toNat), .int .u8 ((y.getD i default).toNat)]) (v := .bool (decide ((x.getD i default) = (y.getD i default)))) rfl Try.call223 (ev2 rfl rfl) rfl (fun w hs => plain1W_c (x.getD i default) (y.getD i default) w)) rfl ?_
      refine x_y (v := .bool (!(decide ((x.getD i default) = (y.getD i default))))) (y_not (b := decide ((x.getD i default) = (y.getD i default))) rfl) rfl ?_
      refine x_nil ?_
      refine thenS_n ?_
      refine wpS_cond (t := !(decide ((x.getD i default) = (y.getD i default)))) rfl (fun b4 => ?_) (fun b4 => ?_)
      · -- !(decide ((x.getD i default) = (y.getD i default))) true
        have b5 : (decide ((x.getD i default) = (y.getD i default))) = false := by simpa using b4
        have p5 := of_decide_eq_false b5
        refine wpS_seq ?_
        refine wpS_region ?_
        refine s_y (v := .bool false) (y_assign rfl) rfl ?_
        refine wpL_nil ?_
        refine thenS_n ?_
        refine wpS_ret ?_
        refine blockS_r ?_
        refine thenS_r ?_
        refine thenS_r ?_
        refine blockS_r ?_
        refine thenS_r ?_
        refine fin1 (M := []) (v := .bool false) (.inr rfl) (.nil) Try.results222 rfl ?_
        exact fun w' hs => ⟨congrArg (fun b => Ending.returned (Value.bool b)) (by exact (gsame_not (i := i) (by assumption)).symm), hs⟩
      · -- !(decide ((x.getD i default) = (y.getD i default))) false
        have b6 : (decide ((x.getD i default) = (y.getD i default))) = true := by simpa using b4
        have p6 := of_decide_eq_true b6
        refine wpS_skip ?_
        refine blockS_n ?_
        refine thenS_n ?_
        refine wpS_region ?_
        refine s_y (v := .int .i64 (((i : Nat) : Int))) (y_move h7_2) rfl ?_
        refine s_y (v := .int .i64 ((((i + 1) : Nat) : Int))) (y_add (a := ((i : Nat) : Int)) (b := 1) (c := (((i + 1) : Nat) : Int)) rfl rfl (wI (by omega) (by omega) (by omega))) rfl ?_
        refine s_y (v := .int .i64 ((((i + 1) : Nat) : Int))) (y_assign rfl) rfl ?_
        refine wpL_nil ?_
        refine thenS_n ?_
        exact ⟨_, by omega, ⟨(i + 1), rfl, by omega, (gsame_step (by omega) (by omega) (by assumption) (by assumption)), rfl, h0_2, h1_2, h2_2, rfl, .nil⟩⟩
    · -- decide (i < nx) false
      have p3 := of_decide_eq_false b3
      refine wpS_exit ?_
      refine thenS_x ?_
      refine thenS_x ?_
      refine blockS_h ?_
      refine thenS_n ?_
      refine wpS_seq ?_
      refine wpS_region ?_
      refine s_y (v := .bool true) (y_assign rfl) rfl ?_
      refine wpL_nil ?_
      refine thenS_n ?_
      refine wpS_ret ?_
      refine fin1 (M := []) (v := .bool true) (.inr rfl) (.nil) Try.results222 rfl ?_
      exact fun w' hs => ⟨congrArg (fun b => Ending.returned (Value.bool b)) (by exact (gsame_all (i := i) hnx hny (by omega) (by omega) (by assumption)).symm), hs⟩

theorem plainW_c (ax ay : Option Addr) (nx ny cx cy : Nat) (x y : List UInt8) (w : World) (hnx : x.length = nx) (hrx : Rds w ax (x.flatMap byteV)) (hbx : nx ≤ 1000000) (hny : y.length = ny) (hry : Rds w ay (y.flatMap byteV)) (hby : ny ≤ 1000000) : Pure Try.prog 166 #[.slice ax nx cx, .slice ay ny cy] w (.bool ((decide (x = y)))) := by
  refine calls_S (n := 8) (σ0 := (upd (upd fr0 0 (.slice ax nx cx)) 1 (.slice ay ny cy))) (D := []) (A := []) Try.func166 rfl Try.ntmps166 rfl (a2_fr _ _) (SH.start w) ?_
  refine wpS_seq ?_
  refine wpS_region ?_
  refine s_y (v := .bool false) (y_assign rfl) rfl ?_
  refine wpL_nil ?_
  refine thenS_n ?_
  refine wpS_seq ?_
  refine wpS_region ?_
  refine s_y (v := .slice ax nx cx) (y_move rfl) rfl ?_
  refine s_y (v := .slice ay ny cy) (y_move rfl) rfl ?_
  refine s_y (v := .bool (decide (x = y))) (y_call (args := #[.slice ax nx cx, .slice ay ny cy, .func (.func 223) #[] #[]]) (v := .bool (decide (x = y))) Try.call222 (ev3 rfl rfl rfl) (fun w hs => hsameW_c ax ay nx ny cx cy x y w hnx ((oldR hrx) w hs) (by omega) hny ((oldR hry) w hs) (by omega))) rfl ?_
  refine s_y (v := .bool (decide (x = y))) (y_assign rfl) rfl ?_
  refine wpL_nil ?_
  refine thenS_n ?_
  refine wpS_ret ?_
  refine fin1 (M := []) (v := .bool (decide (x = y))) (.inr rfl) (.nil) Try.results166 rfl ?_
  exact fun w' hs => ⟨rfl, hs⟩

theorem ownW_c (a : Option Addr) (n c : Nat) (l : List UInt8) (v : UInt8) (w : World) (hn : l.length = n) (hr : Rds w a (l.flatMap byteV)) (hb : n ≤ 1000000) : Makes Try.prog 67 #[.slice a n c, .int .u8 (v.toNat)] w [] (X := Nat) (fun b => .slice (some ⟨b, 0, none⟩) n (n + 3)) (fun b => [osl (some ⟨b, 0, none⟩) (n + 3) (n + 3) 1 5 ((ownL l v).flatMap byteV)]) (fun _ => True) := by
  refine calls_S (n := 33) (σ0 := (upd (upd fr0 0 (.slice a n c)) 1 (.int .u8 (v.toNat)))) (D := []) (A := []) Try.func67 rfl Try.ntmps67 rfl (a2_fr _ _) (SH.start w) ?_
  refine wpS_seq ?_
  refine wpS_region ?_
  refine s_y (v := .slice none 0 0) (y_assign rfl) rfl ?_
  refine wpL_nil ?_
  refine thenS_n ?_
  refine wpS_seq ?_
  refine wpS_region ?_
  refine s_y (v := .slice a n c) (y_move rfl) rfl ?_
  refine s_y (v := .int .i64 (((n : Nat) : Int))) (y_len (ty' := 0) (at_ := #[]) rfl Try.underlying61) rfl ?_
  refine s_y (v := .int .i64 ((((n + 3) : Nat) : Int))) (y_add (a := ((n : Nat) : Int)) (b := 3) (c := (((n + 3) : Nat) : Int)) rfl rfl (wI (by omega) (by omega) (by omega))) rfl ?_
  refine s_e rfl ?_
  refine e_make (enc := byteV) (y0 := 0) (m := 0) (c := (n + 3)) (bytes := 1) byteV_len (by decide) Try.underlying61 (i := Try.t5) rfl rfl rfl rfl rfl rfl rfl (by omega) (by omega) (by omega) ?_
  intro b_1
  refine s_y (v := .slice (some ⟨b_1, 0, none⟩) 0 (n + 3)) (y_assign rfl) rfl ?_
  refine wpL_nil ?_
  refine thenS_n ?_
  refine wpS_seq ?_
  refine wpS_region ?_
  refine s_y (v := .slice (some ⟨b_1, 0, none⟩) 0 (n + 3)) (y_move rfl) rfl ?_
  refine s_y (v := .slice a n c) (y_move rfl) rfl ?_
  refine s_e rfl ?_
  refine e_appendIn (enc := byteV) (xs := ((List.replicate (n + 3) 0) : List UInt8)) (ns := (l : List UInt8)) (zs := (ownTo l 0 v 0)) byteV_len byteV_one Try.underlying61 (i := Try.t5) rfl rfl (by decide) rfl rfl hn.symm .h (by rw [List.length_replicate]) (oldR hr) (by omega) (by subst hn; exact ownTo_0 l 0 v) ?_
  refine s_y (v := .slice (some ⟨b_1, 0, none⟩) (0 + n) (n + 3)) (y_assign rfl) rfl ?_
  refine wpL_nil ?_
  refine thenS_n ?_
  refine wpS_seq ?_
  refine wpS_region ?_
  refine s_y (v := .slice (some ⟨b_1, 0, none⟩) (0 + n) (n + 3)) (y_move rfl) rfl ?_
  refine s_y (v := .slice a n c) (y_move rfl) rfl ?_
  refine s_y (v := .int .i64 (((n : Nat) : Int))) (y_len (ty' := 0) (at_ := #[]) rfl Try.underlying61) rfl ?_
  refine s_y (v := .int .i64 ((((n + 3) : Nat) : Int))) (y_add (a := ((n : Nat) : Int)) (b := 3) (c := (((n + 3) : Nat) : Int)) rfl rfl (wI (by omega) (by omega) (by omega))) rfl ?_
  refine s_y (v := .slice (some ⟨b_1, 0, none⟩) (n + 3) (n + 3)) (y_sliceH (h' := n + 3) rfl rfl Try.underlying61 Try.sizeOf5 (by omega) (by omega) (by omega)) rfl ?_
  refine s_y (v := .slice (some ⟨b_1, 0, none⟩) (n + 3) (n + 3)) (y_assign rfl) rfl ?_
  refine wpL_nil ?_
  refine thenS_n ?_
  refine wpS_seq ?_
  refine wpS_seq ?_
  refine wpS_region ?_
  refine s_y (v := .slice a n c) (y_move rfl) rfl ?_
  refine s_y (v := .int .i64 (((n : Nat) : Int))) (y_len (ty' := 0) (at_ := #[]) rfl Try.underlying61) rfl ?_
  refine s_y (v := .int .i64 (((n : Nat) : Int))) (y_assign rfl) rfl ?_
  refine wpL_nil ?_
  refine thenS_n ?_
  refine wpS_block ?_
  refine wpS_loop (fun mez ds σ L => ∃ i : Nat, mez = 3 - i ∧ (i ≤ 3) ∧ ds = [] ∧ σ 1 = .int .u8 (v.toNat) ∧ σ 5 = .slice (some ⟨b_1, 0, none⟩) (0 + n) (n + 3) ∧ σ 6 = .slice (some ⟨b_1, 0, none⟩) (n + 3) (n + 3) ∧ σ 7 = .int .i64 ((((n + i) : Nat) : Int)) ∧ Ent L [osl (some ⟨b_1, 0, none⟩) (n + 3) (n + 3) 1 5 ((ownTo l 0 v i).flatMap byteV)]) (m0 := 3 - 0) ⟨0, rfl, by omega, rfl, rfl, rfl, rfl, rfl, .p .h .nil⟩ ?_
  rintro mez ds σ L ⟨i, hm_2, hf0_2, rfl, h1_2, h5_2, h6_2, h7_2, hE_2⟩
  refine wpS_ent hE_2 ?_; clear hE_2
  have hol := ownTo_len l 0 v (i := i) (by omega)
  refine wpS_seq ?_
  refine wpS_seq ?_
  refine wpS_region ?_
  refine s_y (v := .int .i64 ((((n + i) : Nat) : Int))) (y_move h7_2) rfl ?_
  refine s_y (v := .slice (some ⟨b_1, 0, none⟩) (n + 3) (n + 3)) (y_move h6_2) rfl ?_
  refine s_y (v := .int .i64 ((((n + 3) : Nat) : Int))) (y_len (ty' := 0) (at_ := #[]) rfl Try.underlying61) rfl ?_
  refine s_y (v := .bool (decide ((n + i) < (n + 3)))) (y_lss (a := (((n + i) : Nat) : Int)) (b := (((n + 3) : Nat) : Int)) (c := decide ((n + i) < (n + 3))) rfl rfl (decide_eq_decide.2 (by omega))) rfl ?_
  refine wpL_nil ?_
  refine thenS_n ?_
  refine wpS_cond (t := decide ((n + i) < (n + 3))) rfl (fun b3 => ?_) (fun b3 => ?_)
  · -- decide ((n + i) < (n + 3)) true
    have p3 := of_decide_eq_true b3
    refine wpS_skip ?_
    refine thenS_n ?_
    refine wpS_seq ?_
    refine wpS_block ?_
    refine wpS_region ?_
    refine s_y (v := .slice (some ⟨b_1, 0, none⟩) (n + 3) (n + 3)) (y_move h6_2) rfl ?_
    refine s_y (v := .int .i64 ((((n + i) : Nat) : Int))) (y_move h7_2) rfl ?_
    refine s_y (v := .int .u8 (v.toNat)) (y_move h1_2) rfl ?_
    refine s_y (v := .pointer (some ⟨aB (some ⟨b_1, 0, none⟩), aO (some ⟨b_1, 0, none⟩) + (n + i) * 1, none⟩)) (y_idx (o := (n + i) * 1) rfl rfl Try.underlying61 Try.sizeOf5 (oslR .h) ((fl_len byteV_len _).trans (by first | omega | (simp only [List.length_set, List.length_take, List.length_drop]; done) | (simp only [List.length_set, List.length_take, List.length_drop]; omega))) (by decide) (by omega) (by omega) (by omega)) rfl ?_
    refine s_e0 ?_
    refine e_storeL' (enc := byteV) (xs := (ownTo l 0 v i)) (y := v) (zs := (ownTo l 0 v (i + 1))) byteV_len byteV_one (by decide) rfl rfl rfl Try.sizeOf5 .h (by omega) (by rw [show n + i = l.length + i by omega]; exact ownTo_set l 0 v (by omega)) ?_
    refine wpL_nil ?_
    refine blockS_n ?_
    refine thenS_n ?_
    refine wpS_region ?_
    refine s_y (v := .int .i64 ((((n + i) : Nat) : Int))) (y_move h7_2) rfl ?_
    refine s_y (v := .int .i64 (((((n + i) + 1) : Nat) : Int))) (y_add (a := (((n + i) : Nat) : Int)) (b := 1) (c := ((((n + i) + 1) : Nat) : Int)) rfl rfl (wI (by omega) (by omega) (by omega))) rfl ?_
    refine s_y (v := .int .i64 (((((n + i) + 1) : Nat) : Int))) (y_assign rfl) rfl ?_
    refine wpL_nil ?_
    refine thenS_n ?_
    exact ⟨_, by omega, ⟨(i + 1), rfl, by omega, rfl, h1_2, h5_2, h6_2, rfl, .p .h .nil⟩⟩
  · -- decide ((n + i) < (n + 3)) false
    have p3 := of_decide_eq_false b3
    refine wpS_exit ?_
    refine thenS_x ?_
    refine thenS_x ?_
    refine blockS_h ?_
    refine thenS_n ?_
    refine wpS_seq ?_
    refine wpS_region ?_
    refine s_y (v := .slice (some ⟨b_1, 0, none⟩) (0 + n) (n + 3)) (y_move h5_2) rfl ?_
    refine s_y (v := .slice (some ⟨b_1, 0, none⟩) (0 + n) (n + 3)) (y_assign rfl) rfl ?_
    refine wpL_nil ?_
    refine thenS_n ?_
    refine wpS_ret ?_
    refine fin1 (M := [osl (some ⟨b_1, 0, none⟩) (n + 3) (n + 3) 1 5 ((ownTo l 0 v i).flatMap byteV)]) (v := .slice (some ⟨b_1, 0, none⟩) (0 + n) (n + 3)) (.inr rfl) (.p .h .nil) Try.results67 rfl ?_
    exact fun w' hs => ⟨b_1, by rw [Nat.zero_add], by rw [show i = 3 by omega, ownTo_3] at hs; exact hs, trivial⟩

theorem keptW_c (b : Nat) (a : Option Addr) (n c : Nat) (l : List UInt8) (v : UInt8) (w : World) (hn : l.length = n) (hr : Rds w a (l.flatMap byteV)) (hb : n ≤ 1000000) (hro : Rds w (some ⟨b, 0, none⟩) ((ownL l v).flatMap byteV)) : Pure Try.prog 71 #[.slice (some ⟨b, 0, none⟩) n (n + 3), .slice a n c, .int .u8 (v.toNat)] w (.bool true) := by
  refine calls_S (n := 40) (σ0 := (upd (upd (upd fr0 0 (.slice (some ⟨b, 0, none⟩) n (n + 3))) 1 (.slice a n c)) 2 (.int .u8 (v.toNat)))) (D := []) (A := []) Try.func71 rfl Try.ntmps71 rfl (a3_fr _ _ _) (SH.start w) ?_
  have hol := ownL_len l v
  have hrl : Rds w (some ⟨b, 0, none⟩) (l.flatMap byteV) := by have h1 := hro.take (l.length * 1); rw [fl_take byteV_len, ownL_take] at h1; exact h1
  refine wpS_seq ?_
  refine wpS_region ?_
  refine s_y (v := .bool false) (y_assign rfl) rfl ?_
  refine wpL_nil ?_
  refine thenS_n ?_
  refine wpS_seq ?_
  refine wpS_seq ?_
  refine wpS_region ?_
  refine s_y (v := .slice (some ⟨b, 0, none⟩) n (n + 3)) (y_move rfl) rfl ?_
  refine s_y (v := .slice a n c) (y_move rfl) rfl ?_
  refine s_y (v := .bool (decide (l = l))) (y_call (args := #[.slice (some ⟨b, 0, none⟩) n (n + 3), .slice a n c]) (v := .bool (decide (l = l))) Try.call166 (ev2 rfl rfl) (fun w hs => plainW_c (some ⟨b, 0, none⟩) a n n (n + 3) c l l w hn ((oldR hrl) w hs) (by omega) hn ((oldR hr) w hs) (by omega))) rfl ?_
  refine s_y (v := .bool (!(decide (l = l)))) (y_not (b := decide (l = l)) rfl) rfl ?_
  refine s_y (v := .bool (!(decide (l = l)))) (y_move rfl) rfl ?_
  refine s_gy (y_move rfl) rfl rfl rfl rfl (b' := !(decide (l = l))) rfl (by simp) ?_
  refine s_gy (y_cap rfl Try.underlying61) rfl rfl rfl rfl (b' := !(decide (l = l))) rfl (by simp) ?_
  refine s_gy (y_move rfl) rfl rfl rfl rfl (b' := !(decide (l = l))) rfl (by simp) ?_
  refine s_gy (y_len (ty' := 0) (at_ := #[]) rfl Try.underlying61) rfl rfl rfl rfl (b' := !(decide (l = l))) rfl (by simp) ?_
  refine s_gy (y_add (a := ((n : Nat) : Int)) (b := 3) (c := (((n + 3) : Nat) : Int)) rfl rfl (wI (by omega) (by omega) (by omega))) rfl rfl rfl rfl (b' := !(decide (l = l))) rfl (by simp) ?_
  refine s_gy (y_lss (a := (((n + 3) : Nat) : Int)) (b := (((n + 3) : Nat) : Int)) (c := decide ((n + 3) < (n + 3))) rfl rfl (decide_eq_decide.2 (by omega))) rfl rfl rfl rfl (b' := !(decide (l = l))) rfl (by simp) ?_
  refine s_y (v := .bool (decide ((n + 3) < (n + 3)))) (y_pickF (b := !(decide (l = l))) (v := .bool (decide ((n + 3) < (n + 3)))) rfl (by simp) rfl) rfl ?_
  refine wpL_nil ?_
  refine thenS_n ?_
  refine wpS_cond_F (t := decide ((n + 3) < (n + 3))) rfl (decide_eq_false (by omega)) ?_
  refine wpS_skip ?_
  refine thenS_n ?_
  refine wpS_seq ?_
  refine wpS_region ?_
  refine s_y (v := .slice (some ⟨b, 0, none⟩) n (n + 3)) (y_move rfl) rfl ?_
  refine s_y (v := .slice a n c) (y_move rfl) rfl ?_
  refine s_y (v := .int .i64 (((n : Nat) : Int))) (y_len (ty' := 0) (at_ := #[]) rfl Try.underlying61) rfl ?_
  refine s_y (v := .int .i64 ((((n + 3) : Nat) : Int))) (y_add (a := ((n : Nat) : Int)) (b := 3) (c := (((n + 3) : Nat) : Int)) rfl rfl (wI (by omega) (by omega) (by omega))) rfl ?_
  refine s_y (v := .slice (some ⟨b, 0, none⟩) (n + 3) (n + 3)) (y_sliceH (h' := n + 3) rfl rfl Try.underlying61 Try.sizeOf5 (by omega) (by omega) (by omega)) rfl ?_
  refine s_y (v := .slice (some ⟨b, 0, none⟩) (n + 3) (n + 3)) (y_assign rfl) rfl ?_
  refine wpL_nil ?_
  refine thenS_n ?_
  refine wpS_seq ?_
  refine wpS_seq ?_
  refine wpS_region ?_
  refine s_y (v := .slice a n c) (y_move rfl) rfl ?_
  refine s_y (v := .int .i64 (((n : Nat) : Int))) (y_len (ty' := 0) (at_ := #[]) rfl Try.underlying61) rfl ?_
  refine s_y (v := .int .i64 (((n : Nat) : Int))) (y_assign rfl) rfl ?_
  refine wpL_nil ?_
  refine thenS_n ?_
  refine wpS_block ?_
  refine wpS_loop (fun mez ds σ L => ∃ i : Nat, mez = 3 - i ∧ (i ≤ 3) ∧ ds = [] ∧ σ 2 = .int .u8 (v.toNat) ∧ σ 7 = .slice (some ⟨b, 0, none⟩) (n + 3) (n + 3) ∧ σ 8 = .int .i64 ((((n + i) : Nat) : Int)) ∧ Ent L []) (m0 := 3 - 0) ⟨0, rfl, by omega, rfl, rfl, rfl, rfl, .nil⟩ ?_
  rintro mez ds σ L ⟨i, hm_1, hf0_1, rfl, h2_1, h7_1, h8_1, hE_1⟩
  refine wpS_ent hE_1 ?_; clear hE_1
  refine wpS_seq ?_
  refine wpS_seq ?_
  refine wpS_region ?_
  refine s_y (v := .int .i64 ((((n + i) : Nat) : Int))) (y_move h8_1) rfl ?_
  refine s_y (v := .slice (some ⟨b, 0, none⟩) (n + 3) (n + 3)) (y_move h7_1) rfl ?_
  refine s_y (v := .int .i64 ((((n + 3) : Nat) : Int))) (y_len (ty' := 0) (at_ := #[]) rfl Try.underlying61) rfl ?_
  refine s_y (v := .bool (decide ((n + i) < (n + 3)))) (y_lss (a := (((n + i) : Nat) : Int)) (b := (((n + 3) : Nat) : Int)) (c := decide ((n + i) < (n + 3))) rfl rfl (decide_eq_decide.2 (by omega))) rfl ?_
  refine wpL_nil ?_
  refine thenS_n ?_
  refine wpS_cond (t := decide ((n + i) < (n + 3))) rfl (fun b2 => ?_) (fun b2 => ?_)
  · -- decide ((n + i) < (n + 3)) true
    have p2 := of_decide_eq_true b2
    refine wpS_skip ?_
    refine thenS_n ?_
    refine wpS_seq ?_
    refine wpS_block ?_
    refine wpS_seq ?_
    refine wpS_region ?_
    refine s_y (v := .slice (some ⟨b, 0, none⟩) (n + 3) (n + 3)) (y_move h7_1) rfl ?_
    refine s_y (v := .int .i64 ((((n + i) : Nat) : Int))) (y_move h8_1) rfl ?_
    refine s_y (v := .pointer (some ⟨aB (some ⟨b, 0, none⟩), aO (some ⟨b, 0, none⟩) + (n + i) * 1, none⟩)) (y_idx (o := (n + i) * 1) rfl rfl Try.underlying61 Try.sizeOf5 (oldR hro) ((fl_len byteV_len _).trans (by first | omega | (simp only [List.length_set, List.length_take, List.length_drop]; done) | (simp only [List.length_set, List.length_take, List.length_drop]; omega))) (by decide) (by omega) (by omega) (by omega)) rfl ?_
    refine s_y (v := .int .u8 (((ownL l v).getD (n + i) default).toNat)) (y_load1 (v := .int .u8 (((ownL l v).getD (n + i) default).toNat)) rfl Try.isAgg5 (rd1 (k := (n + i) * 1) (oldR hro) (fl_get0 byteV_len (ownL l v) (n + i) (by first | omega | (simp only [List.length_set, List.length_take, List.length_drop]; done) | (simp only [List.length_set, List.length_take, List.length_drop]; omega)) rfl))) rfl ?_
    refine s_y (v := .int .u8 (v.toNat)) (y_move h2_1) rfl ?_
    refine s_y (v := .bool (decide (((ownL l v).getD (n + i) default) ≠ v))) (y_neq (a := ((ownL l v).getD (n + i) default).toNat) (b := v.toNat) (c := decide (((ownL l v).getD (n + i) default) ≠ v)) rfl rfl (y8w_neq _ _)) rfl ?_
    refine wpL_nil ?_
    refine thenS_n ?_
    refine wpS_cond_F (t := decide (((ownL l v).getD (n + i) default) ≠ v)) rfl (decide_eq_false (fun h => h (ownL_at l v (by omega) (by omega)))) ?_
    refine wpS_skip ?_
    refine blockS_n ?_
    refine thenS_n ?_
    refine wpS_region ?_
    refine s_y (v := .int .i64 ((((n + i) : Nat) : Int))) (y_move h8_1) rfl ?_
    refine s_y (v := .int .i64 (((((n + i) + 1) : Nat) : Int))) (y_add (a := (((n + i) : Nat) : Int)) (b := 1) (c := ((((n + i) + 1) : Nat) : Int)) rfl rfl (wI (by omega) (by omega) (by omega))) rfl ?_
    refine s_y (v := .int .i64 (((((n + i) + 1) : Nat) : Int))) (y_assign rfl) rfl ?_
    refine wpL_nil ?_
    refine thenS_n ?_
    exact ⟨_, by omega, ⟨(i + 1), rfl, by omega, rfl, h2_1, h7_1, rfl, .nil⟩⟩
  · -- decide ((n + i) < (n + 3)) false
    have p2 := of_decide_eq_false b2
    refine wpS_exit ?_
    refine thenS_x ?_
    refine thenS_x ?_
    refine blockS_h ?_
    refine thenS_n ?_
    refine wpS_seq ?_
    refine wpS_region ?_
    refine s_y (v := .bool true) (y_assign rfl) rfl ?_
    refine wpL_nil ?_
    refine thenS_n ?_
    refine wpS_ret ?_
    refine fin1 (M := []) (v := .bool true) (.inr rfl) (.nil) Try.results71 rfl ?_
    exact fun w' hs => ⟨rfl, hs⟩

end Go.Proofs.Ytldkjjnjdjfipaa
