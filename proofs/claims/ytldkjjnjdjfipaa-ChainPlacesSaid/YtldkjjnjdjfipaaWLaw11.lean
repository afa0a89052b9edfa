/- The laws of straight-line programs: single operations, bad ones, lines; walked. -/
import Derived.Test.YtldkjjnjdjfipaaWVm2
import Derived.Test.YtldkjjnjdjfipaaP11b
import Derived.Test.YtldkjjnjdjfipaaP13b
namespace Go.Proofs.Ytldkjjnjdjfipaa
open Go Go.RowKit
set_option linter.unusedVariables false
set_option linter.unusedSimpArgs false
set_option maxRecDepth 10000
set_option maxHeartbeats 1000000

theorem wpS_sh {P : Program} {w0 : World} {D : List Nat} {n : Nat} {r : Option Nat} {c : Code} {Q : Exit → List Nat → Fr → List Res → Prop} {ds : List Nat} {σ : Fr} {L L' : List Res} (he : ∀ w, SH w0 D L w → SH w0 D L' w) (h : wpS P w0 D n r c Q ds σ L') : wpS P w0 D n r c Q ds σ L :=
  fun a w hf hs => h a w hf (he w hs)
theorem mapC_no {b : Bool} (h : b = false) {k : Int} {l : List Opc} {nn u v : Int64} : mapC b k l nn u v = [] := by unfold mapC; rw [if_neg (by rw [h]; decide)]
theorem doneC_no {b : Bool} (h : b = false) {l : List Opc} {u v : Int64} : doneC b l u v = 0 := by unfold doneC; rw [if_neg (by rw [h]; decide)]
theorem ops_fin {j : Nat} (hj : j < 11) (a b c nn x1 x2 x3 : Int64) (h1 : one64 (decide (a < b)) = x1) (h2 : one64 (decide (a = b)) = x2) (h3 : (if a = 0 then c else b) = x3) :
    doneC (chkB 1 [] [] [(Opc.mk 1 2 0 0 0 c), (Opc.mk ((1 + j : Nat) : Int) 0 0 1 2 nn)]) [(Opc.mk 1 2 0 0 0 c), (Opc.mk ((1 + j : Nat) : Int) 0 0 1 2 nn)] a b = [nn, a + b, a - b, a * b, a &&& b, a ||| b, a ^^^ b, x1, x2, x3, a >>> (b &&& 63)].getD j default := by
  have e : ((1 + j : Nat) : Int) = 1 + ((j : Nat) : Int) := by omega
  rw [e]
  unfold doneC
  refine (if_pos (ops_ok (x := 1 + ((j : Nat) : Int)) (by omega) (by omega) c nn)).trans ?_
  refine (ops_law hj a b c nn).trans ?_
  unfold opsW
  rw [h1, h2, h3]
theorem good_next (i : Nat) : List.replicate i goodO ++ [Opc.mk 2 1 2 3 4 0] = List.replicate (i + 1) goodO := List.replicate_succ'.symm
theorem line_tt {c : Int64} {idle : Bool} {i : Nat} {ys : List Opc} (h : ys = lineL c idle i) (hi : idle = true) : ys ++ [Opc.mk 2 0 0 2 0 0] ++ [Opc.mk 4 7 0 2 0 0] = lineL c idle (i + 1) := by
  subst h hi
  rw [← lineL_next, List.append_assoc]
  rfl
theorem line_ff {c : Int64} {idle : Bool} {i : Nat} {ys : List Opc} (h : ys = lineL c idle i) (hi : idle = false) : ys ++ [Opc.mk 2 0 0 2 0 0] = lineL c idle (i + 1) := by
  subst h hi
  rw [← lineL_next]
  rfl
theorem line_fin {v c : Int64} {idle : Bool} {i : Nat} (hi : i ≤ 18) : doneC (chkB 1 [] (lineL c idle i) []) (lineL c idle i) v c = lineW v c i := by
  unfold doneC
  rw [if_pos (line_ok hi), line_law]

theorem ops_vm (code : Int) (code1 : -9223372036854775808 ≤ code) (code2 : code < 9223372036854775808) (a b c nn : Int64) (w : World) : Pure Try.prog 22 #[.int .i64 code, .int .i64 (a.toInt), .int .i64 (b.toInt), .int .i64 (c.toInt), .int .i64 (nn.toInt)] w (.bool true) := by
  refine calls_S (n := 79) (σ0 := (upd (upd (upd (upd (upd fr0 0 (.int .i64 code)) 1 (.int .i64 (a.toInt))) 2 (.int .i64 (b.toInt))) 3 (.int .i64 (c.toInt))) 4 (.int .i64 (nn.toInt)))) (D := []) (A := []) Try.func22 rfl Try.ntmps22 rfl (a5_fr _ _ _ _ _) (SH.start w) ?_
  refine wpS_seq ?_
  refine wpS_region ?_
  refine s_y (v := .bool false) (y_assign rfl) rfl ?_
  refine wpL_nil ?_
  refine thenS_n ?_
  refine wpS_seq ?_
  refine wpS_region ?_
  refine s_y (v := .int .i64 code) (y_move rfl) rfl ?_
  refine s_y (v := .int .u64 ((((u64of code) : Nat) : Int))) (y_convI (a := code) (c := (((u64of code) : Nat) : Int)) rfl Try.underlying3 Try.underlying46 (u64of_wrap _)) rfl ?_
  refine s_y (v := .int .u64 (((((u64of code) % 11) : Nat) : Int))) (y_rem (a := (((u64of code) : Nat) : Int)) (b := 11) (c := ((((u64of code) % 11) : Nat) : Int)) rfl rfl (by omega) (n_rem _ 11 (by omega))) rfl ?_
  refine s_y (v := .int .i64 (((((u64of code) % 11) : Nat) : Int))) (y_convI (a := ((((u64of code) % 11) : Nat) : Int)) (c := ((((u64of code) % 11) : Nat) : Int)) rfl Try.underlying46 Try.underlying3 (wI rfl (by omega) (by omega))) rfl ?_
  refine s_y (v := .int .i64 ((((1 + ((u64of code) % 11)) : Nat) : Int))) (y_add (a := 1) (b := ((((u64of code) % 11) : Nat) : Int)) (c := (((1 + ((u64of code) % 11)) : Nat) : Int)) rfl rfl (wI (by omega) (by omega) (by omega))) rfl ?_
  refine s_y (v := .int .i64 ((((1 + ((u64of code) % 11)) : Nat) : Int))) (y_assign rfl) rfl ?_
  refine wpL_nil ?_
  refine thenS_n ?_
  refine wpS_seq ?_
  refine wpS_region ?_
  refine s_y (v := .int .i64 (c.toInt)) (y_move rfl) rfl ?_
  refine s_y (v := .agg #[.int .i64 1, .int .i64 2, .int .i64 0, .int .i64 0, .int .i64 0, .int .i64 (c.toInt)]) (y_buildL (m := [(0, .int .i64 1), (1, .int .i64 2), (5, .int .i64 (c.toInt))]) (vs := #[.int .i64 1, .int .i64 2, .int .i64 0, .int .i64 0, .int .i64 0, .int .i64 (c.toInt)]) (evc rfl (evc rfl (evc rfl evn))) (fun w => by kernel_rfl)) rfl ?_
  refine s_y (v := .int .i64 ((((1 + ((u64of code) % 11)) : Nat) : Int))) (y_move rfl) rfl ?_
  refine s_y (v := .int .i64 (nn.toInt)) (y_move rfl) rfl ?_
  refine s_y (v := .agg #[.int .i64 ((((1 + ((u64of code) % 11)) : Nat) : Int)), .int .i64 0, .int .i64 0, .int .i64 1, .int .i64 2, .int .i64 (nn.toInt)]) (y_buildL (m := [(0, .int .i64 ((((1 + ((u64of code) % 11)) : Nat) : Int))), (1, .int .i64 0), (2, .int .i64 0), (3, .int .i64 1), (4, .int .i64 2), (5, .int .i64 (nn.toInt))]) (vs := #[.int .i64 ((((1 + ((u64of code) % 11)) : Nat) : Int)), .int .i64 0, .int .i64 0, .int .i64 1, .int .i64 2, .int .i64 (nn.toInt)]) (evc rfl (evc rfl (evc rfl (evc rfl (evc rfl (evc rfl evn)))))) (fun w => by kernel_rfl)) rfl ?_
  refine s_e rfl ?_
  refine e_bsliceL (e := 86) (m := [(0, .agg #[.int .i64 1, .int .i64 2, .int .i64 0, .int .i64 0, .int .i64 0, .int .i64 (c.toInt)]), (1, .agg #[.int .i64 ((((1 + ((u64of code) % 11)) : Nat) : Int)), .int .i64 0, .int .i64 0, .int .i64 1, .int .i64 2, .int .i64 (nn.toInt)])]) (l := [.int .i64 1, .int .i64 2, .int .i64 0, .int .i64 0, .int .i64 0, .int .i64 (c.toInt), .int .i64 ((((1 + ((u64of code) % 11)) : Nat) : Int)), .int .i64 0, .int .i64 0, .int .i64 1, .int .i64 2, .int .i64 (nn.toInt)]) (evc rfl (evc rfl evn)) (fun w => by kernel_rfl) ?_
  intro b_1
  refine s_y (v := .agg #[.int .i64 1, .slice none 0 0, .slice none 0 0, .slice (some ⟨b_1, 0, none⟩) 2 2]) (y_buildL (m := [(0, .int .i64 1), (3, .slice (some ⟨b_1, 0, none⟩) 2 2)]) (vs := #[.int .i64 1, .slice none 0 0, .slice none 0 0, .slice (some ⟨b_1, 0, none⟩) 2 2]) (evc rfl (evc rfl evn)) (fun w => by kernel_rfl)) rfl ?_
  refine s_e rfl ?_
  refine e_alloc (l := [.int .i64 0, .slice none 0 0, .slice none 0 0, .slice none 0 0]) Try.zeroValue84 rfl ?_
  intro b_2
  refine s_e0 ?_
  refine e_store (vs := [.int .i64 1, .slice none 0 0, .slice none 0 0, .slice (some ⟨b_1, 0, none⟩) 2 2]) (l' := [.int .i64 1, .slice none 0 0, .slice none 0 0, .slice (some ⟨b_1, 0, none⟩) 2 2]) rfl rfl rfl rfl Try.sizeOf84 .h (Nat.le_of_ble_eq_true rfl) rfl ?_
  refine wpL_nil ?_
  refine thenS_n ?_
  refine wpS_seq ?_
  refine wpS_region ?_
  refine s_y (v := .int .i64 (c.toInt)) (y_move rfl) rfl ?_
  refine s_y (v := .int .i64 0) (y_assign rfl) rfl ?_
  refine s_y (v := .int .i64 0) (y_assign rfl) rfl ?_
  refine s_y (v := .int .i64 (c.toInt)) (y_assign rfl) rfl ?_
  refine wpL_nil ?_
  refine thenS_n ?_
  refine wpS_seq ?_
  refine wpS_seq ?_
  refine wpS_region ?_
  refine s_y (v := .int .i64 (a.toInt)) (y_move rfl) rfl ?_
  refine s_y (v := .int .i64 (b.toInt)) (y_move rfl) rfl ?_
  refine s_y (v := .bool (decide (a < b))) (y_lss (a := a.toInt) (b := b.toInt) (c := decide (a < b)) rfl rfl (i_lss _ _)) rfl ?_
  refine wpL_nil ?_
  refine thenS_n ?_
  refine wpS_cond (t := decide (a < b)) rfl (fun b3 => ?_) (fun b3 => ?_)
  · -- decide (a < b) true
    have p3 := of_decide_eq_true b3
    refine wpS_region ?_
    refine s_y (v := .int .i64 1) (y_assign rfl) rfl ?_
    refine wpL_nil ?_
    refine thenS_n ?_
    refine wpS_seq ?_
    refine wpS_seq ?_
    refine wpS_region ?_
    refine s_y (v := .int .i64 (a.toInt)) (y_move rfl) rfl ?_
    refine s_y (v := .int .i64 (b.toInt)) (y_move rfl) rfl ?_
    refine s_y (v := .bool (decide (a = b))) (y_eql (a := a.toInt) (b := b.toInt) (c := decide (a = b)) rfl rfl (i_eql _ _)) rfl ?_
    refine wpL_nil ?_
    refine thenS_n ?_
    refine wpS_cond (t := decide (a = b)) rfl (fun b4 => ?_) (fun b4 => ?_)
    · -- decide (a = b) true
      have p4 := of_decide_eq_true b4
      refine wpS_region ?_
      refine s_y (v := .int .i64 1) (y_assign rfl) rfl ?_
      refine wpL_nil ?_
      refine thenS_n ?_
      refine wpS_seq ?_
      refine wpS_seq ?_
      refine wpS_region ?_
      refine s_y (v := .int .i64 (a.toInt)) (y_move rfl) rfl ?_
      refine s_y (v := .bool (decide (a ≠ 0))) (y_neq (a := a.toInt) (b := 0) (c := decide (a ≠ 0)) rfl rfl (i_neqL _ 0 (by decide))) rfl ?_
      refine wpL_nil ?_
      refine thenS_n ?_
      refine wpS_cond (t := decide (a ≠ 0)) rfl (fun b5 => ?_) (fun b5 => ?_)
      · -- decide (a ≠ 0) true
        have p5 := of_decide_eq_true b5
        refine wpS_region ?_
        refine s_y (v := .int .i64 (b.toInt)) (y_move rfl) rfl ?_
        refine s_y (v := .int .i64 (b.toInt)) (y_assign rfl) rfl ?_
        refine wpL_nil ?_
        refine thenS_n ?_
        refine wpS_seq ?_
        refine wpS_region ?_
        refine s_y (v := .int .i64 (nn.toInt)) (y_move rfl) rfl ?_
        refine s_y (v := .int .i64 (a.toInt)) (y_move rfl) rfl ?_
        refine s_y (v := .int .i64 (b.toInt)) (y_move rfl) rfl ?_
        refine s_y (v := .int .i64 (((a + b)).toInt)) (y_add (a := a.toInt) (b := b.toInt) (c := ((a + b)).toInt) rfl rfl (i_add _ _)) rfl ?_
        refine s_y (v := .int .i64 (a.toInt)) (y_move rfl) rfl ?_
        refine s_y (v := .int .i64 (b.toInt)) (y_move rfl) rfl ?_
        refine s_y (v := .int .i64 (((a - b)).toInt)) (y_sub (a := a.toInt) (b := b.toInt) (c := ((a - b)).toInt) rfl rfl (i_sub _ _)) rfl ?_
        refine s_y (v := .int .i64 (a.toInt)) (y_move rfl) rfl ?_
        refine s_y (v := .int .i64 (b.toInt)) (y_move rfl) rfl ?_
        refine s_y (v := .int .i64 (((a * b)).toInt)) (y_mul (a := a.toInt) (b := b.toInt) (c := ((a * b)).toInt) rfl rfl (i_mul _ _)) rfl ?_
        refine s_y (v := .int .i64 (a.toInt)) (y_move rfl) rfl ?_
        refine s_y (v := .int .i64 (b.toInt)) (y_move rfl) rfl ?_
        refine s_y (v := .int .i64 (((a &&& b)).toInt)) (y_and (a := a.toInt) (b := b.toInt) (c := ((a &&& b)).toInt) rfl rfl (i_and _ _)) rfl ?_
        refine s_y (v := .int .i64 (a.toInt)) (y_move rfl) rfl ?_
        refine s_y (v := .int .i64 (b.toInt)) (y_move rfl) rfl ?_
        refine s_y (v := .int .i64 (((a ||| b)).toInt)) (y_or (a := a.toInt) (b := b.toInt) (c := ((a ||| b)).toInt) rfl rfl (i_or _ _)) rfl ?_
        refine s_y (v := .int .i64 (a.toInt)) (y_move rfl) rfl ?_
        refine s_y (v := .int .i64 (b.toInt)) (y_move rfl) rfl ?_
        refine s_y (v := .int .i64 (((a ^^^ b)).toInt)) (y_xor (a := a.toInt) (b := b.toInt) (c := ((a ^^^ b)).toInt) rfl rfl (i_xor _ _)) rfl ?_
        refine s_y (v := .int .i64 1) (y_move rfl) rfl ?_
        refine s_y (v := .int .i64 1) (y_move rfl) rfl ?_
        refine s_y (v := .int .i64 (b.toInt)) (y_move rfl) rfl ?_
        refine s_y (v := .int .i64 (a.toInt)) (y_move rfl) rfl ?_
        refine s_y (v := .int .i64 (b.toInt)) (y_move rfl) rfl ?_
        refine s_y (v := .int .i64 (((b &&& 63)).toInt)) (y_and (a := b.toInt) (b := 63) (c := ((b &&& 63)).toInt) rfl rfl (i_and b 63)) rfl ?_
        refine s_y (v := .int .u64 (((b &&& 63).toUInt64).toNat)) (y_convI (a := ((b &&& 63)).toInt) (c := ((b &&& 63).toUInt64).toNat) rfl Try.underlying2 Try.underlying46 (iu_conv _)) rfl ?_
        refine s_y (v := .int .i64 (((a >>> (b &&& 63))).toInt)) (y_shr (a := a.toInt) (b := ((b &&& 63).toUInt64).toNat) (c := ((a >>> (b &&& 63))).toInt) rfl rfl (by omega) (i_sar a b)) rfl ?_
        refine s_e rfl ?_
        refine e_bsliceL (e := 2) (m := [(0, .int .i64 (nn.toInt)), (1, .int .i64 (((a + b)).toInt)), (2, .int .i64 (((a - b)).toInt)), (3, .int .i64 (((a * b)).toInt)), (4, .int .i64 (((a &&& b)).toInt)), (5, .int .i64 (((a ||| b)).toInt)), (6, .int .i64 (((a ^^^ b)).toInt)), (7, .int .i64 1), (8, .int .i64 1), (9, .int .i64 (b.toInt)), (10, .int .i64 (((a >>> (b &&& 63))).toInt))]) (l := [.int .i64 (nn.toInt), .int .i64 (((a + b)).toInt), .int .i64 (((a - b)).toInt), .int .i64 (((a * b)).toInt), .int .i64 (((a &&& b)).toInt), .int .i64 (((a ||| b)).toInt), .int .i64 (((a ^^^ b)).toInt), .int .i64 1, .int .i64 1, .int .i64 (b.toInt), .int .i64 (((a >>> (b &&& 63))).toInt)]) (evc rfl (evc rfl (evc rfl (evc rfl (evc rfl (evc rfl (evc rfl (evc rfl (evc rfl (evc rfl (evc rfl evn))))))))))) (fun w => by kernel_rfl) ?_
        intro b_6
        refine s_y (v := .int .i64 ((((1 + ((u64of code) % 11)) : Nat) : Int))) (y_move rfl) rfl ?_
        refine s_y (v := .int .i64 ((((u64of code % 11) : Nat) : Int))) (y_sub (a := (((1 + ((u64of code) % 11)) : Nat) : Int)) (b := 1) (c := (((u64of code % 11) : Nat) : Int)) rfl rfl (wI (by omega) (by omega) (by omega))) rfl ?_
        refine s_y (v := .pointer (some ⟨aB (some ⟨b_6, 0, none⟩), aO (some ⟨b_6, 0, none⟩) + (u64of code % 11) * 1, none⟩)) (y_idx (o := (u64of code % 11) * 1) rfl rfl Try.underlying98 Try.sizeOf2 (fun w hs => (show Rds w _ ([nn, (a + b), (a - b), (a * b), (a &&& b), (a ||| b), (a ^^^ b), 1, 1, b, (a >>> (b &&& 63))].flatMap i64V) from celR .h w hs)) (fl_len i64V_len _) (by decide) (by omega) (by omega) (by omega)) rfl ?_
        refine s_y (v := .int .i64 (((([nn, (a + b), (a - b), (a * b), (a &&& b), (a ||| b), (a ^^^ b), 1, 1, b, (a >>> (b &&& 63))]).getD (u64of code % 11) default)).toInt)) (y_load1 (v := .int .i64 (((([nn, (a + b), (a - b), (a * b), (a &&& b), (a ||| b), (a ^^^ b), 1, 1, b, (a >>> (b &&& 63))]).getD (u64of code % 11) default)).toInt)) rfl Try.isAgg2 (rd1 (k := (u64of code % 11) * 1) (fun w hs => (show Rds w _ ([nn, (a + b), (a - b), (a * b), (a &&& b), (a ||| b), (a ^^^ b), 1, 1, b, (a >>> (b &&& 63))].flatMap i64V) from celR .h w hs)) (fl_get0 i64V_len ([nn, (a + b), (a - b), (a * b), (a &&& b), (a ||| b), (a ^^^ b), 1, 1, b, (a >>> (b &&& 63))]) (u64of code % 11) (by show _ < 11; omega) rfl))) rfl ?_
        refine s_y (v := .int .i64 (((([nn, (a + b), (a - b), (a * b), (a &&& b), (a ||| b), (a ^^^ b), 1, 1, b, (a >>> (b &&& 63))]).getD (u64of code % 11) default)).toInt)) (y_assign rfl) rfl ?_
        refine wpL_nil ?_
        refine thenS_n ?_
        refine wpS_seq ?_
        refine wpS_region ?_
        refine s_y (v := .bool true) (y_call (args := #[]) (v := .bool true) Try.call82 ev0 (fun w hs => awake11_c w)) rfl ?_
        refine s_y (v := .bool true) (y_move rfl) rfl ?_
        refine s_gy (y_loadN (vs := [.int .i64 1, .slice none 0 0, .slice none 0 0, .slice (some ⟨b_1, 0, none⟩) 2 2]) rfl Try.isAgg84 Try.sizeOf84 (ownN (.t .h) rfl)) rfl rfl rfl rfl rfl rfl ?_
        refine s_gy (y_move rfl) rfl rfl rfl rfl rfl rfl ?_
        refine s_gy (y_move rfl) rfl rfl rfl rfl rfl rfl ?_
        refine s_gy (y_call (args := #[.agg #[.int .i64 1, .slice none 0 0, .slice none 0 0, .slice (some ⟨b_1, 0, none⟩) 2 2], .int .i64 (b.toInt), .int .i64 (a.toInt)]) (v := .int .i64 (((doneC (chkB 1 ([]) ([]) ([(Opc.mk 1 2 0 0 0 c), (Opc.mk (((1 + ((u64of code) % 11)) : Nat) : Int) 0 0 1 2 nn)])) ([(Opc.mk 1 2 0 0 0 c), (Opc.mk (((1 + ((u64of code) % 11)) : Nat) : Int) 0 0 1 2 nn)]) a b)).toInt)) Try.call89 (ev3 rfl rfl rfl) (fun w hs => finish_c 1 none none (some ⟨b_1, 0, none⟩) 0 0 0 0 2 2 ([]) ([]) ([(Opc.mk 1 2 0 0 0 c), (Opc.mk (((1 + ((u64of code) % 11)) : Nat) : Int) 0 0 1 2 nn)]) b a w (by first | rfl | (simp only [List.length_set]; done) | omega) (Rds.nil _ _) (by omega) (by first | rfl | (simp only [List.length_set]; done) | omega) (Rds.nil _ _) (by omega) (by first | rfl | (simp only [List.length_set]; done) | omega) (celR (.t (.t .h)) w hs) (by omega))) rfl rfl rfl rfl rfl rfl ?_
        refine s_gy (y_move rfl) rfl rfl rfl rfl rfl rfl ?_
        refine s_gy (y_eql (a := ((doneC (chkB 1 ([]) ([]) ([(Opc.mk 1 2 0 0 0 c), (Opc.mk (((1 + ((u64of code) % 11)) : Nat) : Int) 0 0 1 2 nn)])) ([(Opc.mk 1 2 0 0 0 c), (Opc.mk (((1 + ((u64of code) % 11)) : Nat) : Int) 0 0 1 2 nn)]) a b)).toInt) (b := ((([nn, (a + b), (a - b), (a * b), (a &&& b), (a ||| b), (a ^^^ b), 1, 1, b, (a >>> (b &&& 63))]).getD (u64of code % 11) default)).toInt) (c := decide ((doneC (chkB 1 ([]) ([]) ([(Opc.mk 1 2 0 0 0 c), (Opc.mk (((1 + ((u64of code) % 11)) : Nat) : Int) 0 0 1 2 nn)])) ([(Opc.mk 1 2 0 0 0 c), (Opc.mk (((1 + ((u64of code) % 11)) : Nat) : Int) 0 0 1 2 nn)]) a b) = (([nn, (a + b), (a - b), (a * b), (a &&& b), (a ||| b), (a ^^^ b), 1, 1, b, (a >>> (b &&& 63))]).getD (u64of code % 11) default))) rfl rfl (i_eql _ _)) rfl rfl rfl rfl rfl rfl ?_
        refine s_y (v := .bool (decide ((doneC (chkB 1 ([]) ([]) ([(Opc.mk 1 2 0 0 0 c), (Opc.mk (((1 + ((u64of code) % 11)) : Nat) : Int) 0 0 1 2 nn)])) ([(Opc.mk 1 2 0 0 0 c), (Opc.mk (((1 + ((u64of code) % 11)) : Nat) : Int) 0 0 1 2 nn)]) a b) = (([nn, (a + b), (a - b), (a * b), (a &&& b), (a ||| b), (a ^^^ b), 1, 1, b, (a >>> (b &&& 63))]).getD (u64of code % 11) default)))) (y_pickT (v := .bool (decide ((doneC (chkB 1 ([]) ([]) ([(Opc.mk 1 2 0 0 0 c), (Opc.mk (((1 + ((u64of code) % 11)) : Nat) : Int) 0 0 1 2 nn)])) ([(Opc.mk 1 2 0 0 0 c), (Opc.mk (((1 + ((u64of code) % 11)) : Nat) : Int) 0 0 1 2 nn)]) a b) = (([nn, (a + b), (a - b), (a * b), (a &&& b), (a ||| b), (a ^^^ b), 1, 1, b, (a >>> (b &&& 63))]).getD (u64of code % 11) default)))) rfl rfl rfl) rfl ?_
        refine s_y (v := .bool (decide ((doneC (chkB 1 ([]) ([]) ([(Opc.mk 1 2 0 0 0 c), (Opc.mk (((1 + ((u64of code) % 11)) : Nat) : Int) 0 0 1 2 nn)])) ([(Opc.mk 1 2 0 0 0 c), (Opc.mk (((1 + ((u64of code) % 11)) : Nat) : Int) 0 0 1 2 nn)]) a b) = (([nn, (a + b), (a - b), (a * b), (a &&& b), (a ||| b), (a ^^^ b), 1, 1, b, (a >>> (b &&& 63))]).getD (u64of code % 11) default)))) (y_assign rfl) rfl ?_
        refine wpL_nil ?_
        refine thenS_n ?_
        refine wpS_ret ?_
        refine fin1 (v := .bool (decide ((doneC (chkB 1 ([]) ([]) ([(Opc.mk 1 2 0 0 0 c), (Opc.mk (((1 + ((u64of code) % 11)) : Nat) : Int) 0 0 1 2 nn)])) ([(Opc.mk 1 2 0 0 0 c), (Opc.mk (((1 + ((u64of code) % 11)) : Nat) : Int) 0 0 1 2 nn)]) a b) = (([nn, (a + b), (a - b), (a * b), (a &&& b), (a ||| b), (a ^^^ b), 1, 1, b, (a >>> (b &&& 63))]).getD (u64of code % 11) default)))) (.inr rfl) (.nil) Try.results22 rfl ?_
        exact fun w' hs => ⟨congrArg (fun b => Ending.returned (Value.bool b)) (show (decide ((doneC (chkB 1 ([]) ([]) ([(Opc.mk 1 2 0 0 0 c), (Opc.mk (((1 + ((u64of code) % 11)) : Nat) : Int) 0 0 1 2 nn)])) ([(Opc.mk 1 2 0 0 0 c), (Opc.mk (((1 + ((u64of code) % 11)) : Nat) : Int) 0 0 1 2 nn)]) a b) = (([nn, (a + b), (a - b), (a * b), (a &&& b), (a ||| b), (a ^^^ b), 1, 1, b, (a >>> (b &&& 63))]).getD (u64of code % 11) default))) = true from (decide_eq_true (ops_fin (by omega) _ _ _ _ _ _ _ (by first | (rw [decide_eq_true (by assumption)]; rfl) | (rw [decide_eq_false (by assumption)]; rfl)) (by first | (rw [decide_eq_true (by assumption)]; rfl) | (rw [decide_eq_false (by assumption)]; rfl)) (by first | rw [if_neg (by assumption)] | rw [if_pos (Decidable.not_not.1 (by assumption))])))), hs⟩
      · -- decide (a ≠ 0) false
        have p5 := of_decide_eq_false b5
        refine wpS_skip ?_
        refine thenS_n ?_
        refine wpS_seq ?_
        refine wpS_region ?_
        refine s_y (v := .int .i64 (nn.toInt)) (y_move rfl) rfl ?_
        refine s_y (v := .int .i64 (a.toInt)) (y_move rfl) rfl ?_
        refine s_y (v := .int .i64 (b.toInt)) (y_move rfl) rfl ?_
        refine s_y (v := .int .i64 (((a + b)).toInt)) (y_add (a := a.toInt) (b := b.toInt) (c := ((a + b)).toInt) rfl rfl (i_add _ _)) rfl ?_
        refine s_y (v := .int .i64 (a.toInt)) (y_move rfl) rfl ?_
        refine s_y (v := .int .i64 (b.toInt)) (y_move rfl) rfl ?_
        refine s_y (v := .int .i64 (((a - b)).toInt)) (y_sub (a := a.toInt) (b := b.toInt) (c := ((a - b)).toInt) rfl rfl (i_sub _ _)) rfl ?_
        refine s_y (v := .int .i64 (a.toInt)) (y_move rfl) rfl ?_
        refine s_y (v := .int .i64 (b.toInt)) (y_move rfl) rfl ?_
        refine s_y (v := .int .i64 (((a * b)).toInt)) (y_mul (a := a.toInt) (b := b.toInt) (c := ((a * b)).toInt) rfl rfl (i_mul _ _)) rfl ?_
        refine s_y (v := .int .i64 (a.toInt)) (y_move rfl) rfl ?_
        refine s_y (v := .int .i64 (b.toInt)) (y_move rfl) rfl ?_
        refine s_y (v := .int .i64 (((a &&& b)).toInt)) (y_and (a := a.toInt) (b := b.toInt) (c := ((a &&& b)).toInt) rfl rfl (i_and _ _)) rfl ?_
        refine s_y (v := .int .i64 (a.toInt)) (y_move rfl) rfl ?_
        refine s_y (v := .int .i64 (b.toInt)) (y_move rfl) rfl ?_
        refine s_y (v := .int .i64 (((a ||| b)).toInt)) (y_or (a := a.toInt) (b := b.toInt) (c := ((a ||| b)).toInt) rfl rfl (i_or _ _)) rfl ?_
        refine s_y (v := .int .i64 (a.toInt)) (y_move rfl) rfl ?_
        refine s_y (v := .int .i64 (b.toInt)) (y_move rfl) rfl ?_
        refine s_y (v := .int .i64 (((a ^^^ b)).toInt)) (y_xor (a := a.toInt) (b := b.toInt) (c := ((a ^^^ b)).toInt) rfl rfl (i_xor _ _)) rfl ?_
        refine s_y (v := .int .i64 1) (y_move rfl) rfl ?_
        refine s_y (v := .int .i64 1) (y_move rfl) rfl ?_
        refine s_y (v := .int .i64 (c.toInt)) (y_move rfl) rfl ?_
        refine s_y (v := .int .i64 (a.toInt)) (y_move rfl) rfl ?_
        refine s_y (v := .int .i64 (b.toInt)) (y_move rfl) rfl ?_
        refine s_y (v := .int .i64 (((b &&& 63)).toInt)) (y_and (a := b.toInt) (b := 63) (c := ((b &&& 63)).toInt) rfl rfl (i_and b 63)) rfl ?_
        refine s_y (v := .int .u64 (((b &&& 63).toUInt64).toNat)) (y_convI (a := ((b &&& 63)).toInt) (c := ((b &&& 63).toUInt64).toNat) rfl Try.underlying2 Try.underlying46 (iu_conv _)) rfl ?_
        refine s_y (v := .int .i64 (((a >>> (b &&& 63))).toInt)) (y_shr (a := a.toInt) (b := ((b &&& 63).toUInt64).toNat) (c := ((a >>> (b &&& 63))).toInt) rfl rfl (by omega) (i_sar a b)) rfl ?_
        refine s_e rfl ?_
        refine e_bsliceL (e := 2) (m := [(0, .int .i64 (nn.toInt)), (1, .int .i64 (((a + b)).toInt)), (2, .int .i64 (((a - b)).toInt)), (3, .int .i64 (((a * b)).toInt)), (4, .int .i64 (((a &&& b)).toInt)), (5, .int .i64 (((a ||| b)).toInt)), (6, .int .i64 (((a ^^^ b)).toInt)), (7, .int .i64 1), (8, .int .i64 1), (9, .int .i64 (c.toInt)), (10, .int .i64 (((a >>> (b &&& 63))).toInt))]) (l := [.int .i64 (nn.toInt), .int .i64 (((a + b)).toInt), .int .i64 (((a - b)).toInt), .int .i64 (((a * b)).toInt), .int .i64 (((a &&& b)).toInt), .int .i64 (((a ||| b)).toInt), .int .i64 (((a ^^^ b)).toInt), .int .i64 1, .int .i64 1, .int .i64 (c.toInt), .int .i64 (((a >>> (b &&& 63))).toInt)]) (evc rfl (evc rfl (evc rfl (evc rfl (evc rfl (evc rfl (evc rfl (evc rfl (evc rfl (evc rfl (evc rfl evn))))))))))) (fun w => by kernel_rfl) ?_
        intro b_7
        refine s_y (v := .int .i64 ((((1 + ((u64of code) % 11)) : Nat) : Int))) (y_move rfl) rfl ?_
        refine s_y (v := .int .i64 ((((u64of code % 11) : Nat) : Int))) (y_sub (a := (((1 + ((u64of code) % 11)) : Nat) : Int)) (b := 1) (c := (((u64of code % 11) : Nat) : Int)) rfl rfl (wI (by omega) (by omega) (by omega))) rfl ?_
        refine s_y (v := .pointer (some ⟨aB (some ⟨b_7, 0, none⟩), aO (some ⟨b_7, 0, none⟩) + (u64of code % 11) * 1, none⟩)) (y_idx (o := (u64of code % 11) * 1) rfl rfl Try.underlying98 Try.sizeOf2 (fun w hs => (show Rds w _ ([nn, (a + b), (a - b), (a * b), (a &&& b), (a ||| b), (a ^^^ b), 1, 1, c, (a >>> (b &&& 63))].flatMap i64V) from celR .h w hs)) (fl_len i64V_len _) (by decide) (by omega) (by omega) (by omega)) rfl ?_
        refine s_y (v := .int .i64 (((([nn, (a + b), (a - b), (a * b), (a &&& b), (a ||| b), (a ^^^ b), 1, 1, c, (a >>> (b &&& 63))]).getD (u64of code % 11) default)).toInt)) (y_load1 (v := .int .i64 (((([nn, (a + b), (a - b), (a * b), (a &&& b), (a ||| b), (a ^^^ b), 1, 1, c, (a >>> (b &&& 63))]).getD (u64of code % 11) default)).toInt)) rfl Try.isAgg2 (rd1 (k := (u64of code % 11) * 1) (fun w hs => (show Rds w _ ([nn, (a + b), (a - b), (a * b), (a &&& b), (a ||| b), (a ^^^ b), 1, 1, c, (a >>> (b &&& 63))].flatMap i64V) from celR .h w hs)) (fl_get0 i64V_len ([nn, (a + b), (a - b), (a * b), (a &&& b), (a ||| b), (a ^^^ b), 1, 1, c, (a >>> (b &&& 63))]) (u64of code % 11) (by show _ < 11; omega) rfl))) rfl ?_
        refine s_y (v := .int .i64 (((([nn, (a + b), (a - b), (a * b), (a &&& b), (a ||| b), (a ^^^ b), 1, 1, c, (a >>> (b &&& 63))]).getD (u64of code % 11) default)).toInt)) (y_assign rfl) rfl ?_
        refine wpL_nil ?_
        refine thenS_n ?_
        refine wpS_seq ?_
        refine wpS_region ?_
        refine s_y (v := .bool true) (y_call (args := #[]) (v := .bool true) Try.call82 ev0 (fun w hs => awake11_c w)) rfl ?_
        refine s_y (v := .bool true) (y_move rfl) rfl ?_
        refine s_gy (y_loadN (vs := [.int .i64 1, .slice none 0 0, .slice none 0 0, .slice (some ⟨b_1, 0, none⟩) 2 2]) rfl Try.isAgg84 Try.sizeOf84 (ownN (.t .h) rfl)) rfl rfl rfl rfl rfl rfl ?_
        refine s_gy (y_move rfl) rfl rfl rfl rfl rfl rfl ?_
        refine s_gy (y_move rfl) rfl rfl rfl rfl rfl rfl ?_
        refine s_gy (y_call (args := #[.agg #[.int .i64 1, .slice none 0 0, .slice none 0 0, .slice (some ⟨b_1, 0, none⟩) 2 2], .int .i64 (b.toInt), .int .i64 (a.toInt)]) (v := .int .i64 (((doneC (chkB 1 ([]) ([]) ([(Opc.mk 1 2 0 0 0 c), (Opc.mk (((1 + ((u64of code) % 11)) : Nat) : Int) 0 0 1 2 nn)])) ([(Opc.mk 1 2 0 0 0 c), (Opc.mk (((1 + ((u64of code) % 11)) : Nat) : Int) 0 0 1 2 nn)]) a b)).toInt)) Try.call89 (ev3 rfl rfl rfl) (fun w hs => finish_c 1 none none (some ⟨b_1, 0, none⟩) 0 0 0 0 2 2 ([]) ([]) ([(Opc.mk 1 2 0 0 0 c), (Opc.mk (((1 + ((u64of code) % 11)) : Nat) : Int) 0 0 1 2 nn)]) b a w (by first | rfl | (simp only [List.length_set]; done) | omega) (Rds.nil _ _) (by omega) (by first | rfl | (simp only [List.length_set]; done) | omega) (Rds.nil _ _) (by omega) (by first | rfl | (simp only [List.length_set]; done) | omega) (celR (.t (.t .h)) w hs) (by omega))) rfl rfl rfl rfl rfl rfl ?_
        refine s_gy (y_move rfl) rfl rfl rfl rfl rfl rfl ?_
        refine s_gy (y_eql (a := ((doneC (chkB 1 ([]) ([]) ([(Opc.mk 1 2 0 0 0 c), (Opc.mk (((1 + ((u64of code) % 11)) : Nat) : Int) 0 0 1 2 nn)])) ([(Opc.mk 1 2 0 0 0 c), (Opc.mk (((1 + ((u64of code) % 11)) : Nat) : Int) 0 0 1 2 nn)]) a b)).toInt) (b := ((([nn, (a + b), (a - b), (a * b), (a &&& b), (a ||| b), (a ^^^ b), 1, 1, c, (a >>> (b &&& 63))]).getD (u64of code % 11) default)).toInt) (c := decide ((doneC (chkB 1 ([]) ([]) ([(Opc.mk 1 2 0 0 0 c), (Opc.mk (((1 + ((u64of code) % 11)) : Nat) : Int) 0 0 1 2 nn)])) ([(Opc.mk 1 2 0 0 0 c), (Opc.mk (((1 + ((u64of code) % 11)) : Nat) : Int) 0 0 1 2 nn)]) a b) = (([nn, (a + b), (a - b), (a * b), (a &&& b), (a ||| b), (a ^^^ b), 1, 1, c, (a >>> (b &&& 63))]).getD (u64of code % 11) default))) rfl rfl (i_eql _ _)) rfl rfl rfl rfl rfl rfl ?_
        refine s_y (v := .bool (decide ((doneC (chkB 1 ([]) ([]) ([(Opc.mk 1 2 0 0 0 c), (Opc.mk (((1 + ((u64of code) % 11)) : Nat) : Int) 0 0 1 2 nn)])) ([(Opc.mk 1 2 0 0 0 c), (Opc.mk (((1 + ((u64of code) % 11)) : Nat) : Int) 0 0 1 2 nn)]) a b) = (([nn, (a + b), (a - b), (a * b), (a &&& b), (a ||| b), (a ^^^ b), 1, 1, c, (a >>> (b &&& 63))]).getD (u64of code % 11) default)))) (y_pickT (v := .bool (decide ((doneC (chkB 1 ([]) ([]) ([(Opc.mk 1 2 0 0 0 c), (Opc.mk (((1 + ((u64of code) % 11)) : Nat) : Int) 0 0 1 2 nn)])) ([(Opc.mk 1 2 0 0 0 c), (Opc.mk (((1 + ((u64of code) % 11)) : Nat) : Int) 0 0 1 2 nn)]) a b) = (([nn, (a + b), (a - b), (a * b), (a &&& b), (a ||| b), (a ^^^ b), 1, 1, c, (a >>> (b &&& 63))]).getD (u64of code % 11) default)))) rfl rfl rfl) rfl ?_
        refine s_y (v := .bool (decide ((doneC (chkB 1 ([]) ([]) ([(Opc.mk 1 2 0 0 0 c), (Opc.mk (((1 + ((u64of code) % 11)) : Nat) : Int) 0 0 1 2 nn)])) ([(Opc.mk 1 2 0 0 0 c), (Opc.mk (((1 + ((u64of code) % 11)) : Nat) : Int) 0 0 1 2 nn)]) a b) = (([nn, (a + b), (a - b), (a * b), (a &&& b), (a ||| b), (a ^^^ b), 1, 1, c, (a >>> (b &&& 63))]).getD (u64of code % 11) default)))) (y_assign rfl) rfl ?_
        refine wpL_nil ?_
        refine thenS_n ?_
        refine wpS_ret ?_
        refine fin1 (v := .bool (decide ((doneC (chkB 1 ([]) ([]) ([(Opc.mk 1 2 0 0 0 c), (Opc.mk (((1 + ((u64of code) % 11)) : Nat) : Int) 0 0 1 2 nn)])) ([(Opc.mk 1 2 0 0 0 c), (Opc.mk (((1 + ((u64of code) % 11)) : Nat) : Int) 0 0 1 2 nn)]) a b) = (([nn, (a + b), (a - b), (a * b), (a &&& b), (a ||| b), (a ^^^ b), 1, 1, c, (a >>> (b &&& 63))]).getD (u64of code % 11) default)))) (.inr rfl) (.nil) Try.results22 rfl ?_
        exact fun w' hs => ⟨congrArg (fun b => Ending.returned (Value.bool b)) (show (decide ((doneC (chkB 1 ([]) ([]) ([(Opc.mk 1 2 0 0 0 c), (Opc.mk (((1 + ((u64of code) % 11)) : Nat) : Int) 0 0 1 2 nn)])) ([(Opc.mk 1 2 0 0 0 c), (Opc.mk (((1 + ((u64of code) % 11)) : Nat) : Int) 0 0 1 2 nn)]) a b) = (([nn, (a + b), (a - b), (a * b), (a &&& b), (a ||| b), (a ^^^ b), 1, 1, c, (a >>> (b &&& 63))]).getD (u64of code % 11) default))) = true from (decide_eq_true (ops_fin (by omega) _ _ _ _ _ _ _ (by first | (rw [decide_eq_true (by assumption)]; rfl) | (rw [decide_eq_false (by assumption)]; rfl)) (by first | (rw [decide_eq_true (by assumption)]; rfl) | (rw [decide_eq_false (by assumption)]; rfl)) (by first | rw [if_neg (by assumption)] | rw [if_pos (Decidable.not_not.1 (by assumption))])))), hs⟩
    · -- decide (a = b) false
      have p4 := of_decide_eq_false b4
      refine wpS_skip ?_
      refine thenS_n ?_
      refine wpS_seq ?_
      refine wpS_seq ?_
      refine wpS_region ?_
      refine s_y (v := .int .i64 (a.toInt)) (y_move rfl) rfl ?_
      refine s_y (v := .bool (decide (a ≠ 0))) (y_neq (a := a.toInt) (b := 0) (c := decide (a ≠ 0)) rfl rfl (i_neqL _ 0 (by decide))) rfl ?_
      refine wpL_nil ?_
      refine thenS_n ?_
      refine wpS_cond (t := decide (a ≠ 0)) rfl (fun b8 => ?_) (fun b8 => ?_)
      · -- decide (a ≠ 0) true
        have p8 := of_decide_eq_true b8
        refine wpS_region ?_
        refine s_y (v := .int .i64 (b.toInt)) (y_move rfl) rfl ?_
        refine s_y (v := .int .i64 (b.toInt)) (y_assign rfl) rfl ?_
        refine wpL_nil ?_
        refine thenS_n ?_
        refine wpS_seq ?_
        refine wpS_region ?_
        refine s_y (v := .int .i64 (nn.toInt)) (y_move rfl) rfl ?_
        refine s_y (v := .int .i64 (a.toInt)) (y_move rfl) rfl ?_
        refine s_y (v := .int .i64 (b.toInt)) (y_move rfl) rfl ?_
        refine s_y (v := .int .i64 (((a + b)).toInt)) (y_add (a := a.toInt) (b := b.toInt) (c := ((a + b)).toInt) rfl rfl (i_add _ _)) rfl ?_
        refine s_y (v := .int .i64 (a.toInt)) (y_move rfl) rfl ?_
        refine s_y (v := .int .i64 (b.toInt)) (y_move rfl) rfl ?_
        refine s_y (v := .int .i64 (((a - b)).toInt)) (y_sub (a := a.toInt) (b := b.toInt) (c := ((a - b)).toInt) rfl rfl (i_sub _ _)) rfl ?_
        refine s_y (v := .int .i64 (a.toInt)) (y_move rfl) rfl ?_
        refine s_y (v := .int .i64 (b.toInt)) (y_move rfl) rfl ?_
        refine s_y (v := .int .i64 (((a * b)).toInt)) (y_mul (a := a.toInt) (b := b.toInt) (c := ((a * b)).toInt) rfl rfl (i_mul _ _)) rfl ?_
        refine s_y (v := .int .i64 (a.toInt)) (y_move rfl) rfl ?_
        refine s_y (v := .int .i64 (b.toInt)) (y_move rfl) rfl ?_
        refine s_y (v := .int .i64 (((a &&& b)).toInt)) (y_and (a := a.toInt) (b := b.toInt) (c := ((a &&& b)).toInt) rfl rfl (i_and _ _)) rfl ?_
        refine s_y (v := .int .i64 (a.toInt)) (y_move rfl) rfl ?_
        refine s_y (v := .int .i64 (b.toInt)) (y_move rfl) rfl ?_
        refine s_y (v := .int .i64 (((a ||| b)).toInt)) (y_or (a := a.toInt) (b := b.toInt) (c := ((a ||| b)).toInt) rfl rfl (i_or _ _)) rfl ?_
        refine s_y (v := .int .i64 (a.toInt)) (y_move rfl) rfl ?_
        refine s_y (v := .int .i64 (b.toInt)) (y_move rfl) rfl ?_
        refine s_y (v := .int .i64 (((a ^^^ b)).toInt)) (y_xor (a := a.toInt) (b := b.toInt) (c := ((a ^^^ b)).toInt) rfl rfl (i_xor _ _)) rfl ?_
        refine s_y (v := .int .i64 1) (y_move rfl) rfl ?_
        refine s_y (v := .int .i64 0) (y_move rfl) rfl ?_
        refine s_y (v := .int .i64 (b.toInt)) (y_move rfl) rfl ?_
        refine s_y (v := .int .i64 (a.toInt)) (y_move rfl) rfl ?_
        refine s_y (v := .int .i64 (b.toInt)) (y_move rfl) rfl ?_
        refine s_y (v := .int .i64 (((b &&& 63)).toInt)) (y_and (a := b.toInt) (b := 63) (c := ((b &&& 63)).toInt) rfl rfl (i_and b 63)) rfl ?_
        refine s_y (v := .int .u64 (((b &&& 63).toUInt64).toNat)) (y_convI (a := ((b &&& 63)).toInt) (c := ((b &&& 63).toUInt64).toNat) rfl Try.underlying2 Try.underlying46 (iu_conv _)) rfl ?_
        refine s_y (v := .int .i64 (((a >>> (b &&& 63))).toInt)) (y_shr (a := a.toInt) (b := ((b &&& 63).toUInt64).toNat) (c := ((a >>> (b &&& 63))).toInt) rfl rfl (by omega) (i_sar a b)) rfl ?_
        refine s_e rfl ?_
        refine e_bsliceL (e := 2) (m := [(0, .int .i64 (nn.toInt)), (1, .int .i64 (((a + b)).toInt)), (2, .int .i64 (((a - b)).toInt)), (3, .int .i64 (((a * b)).toInt)), (4, .int .i64 (((a &&& b)).toInt)), (5, .int .i64 (((a ||| b)).toInt)), (6, .int .i64 (((a ^^^ b)).toInt)), (7, .int .i64 1), (8, .int .i64 0), (9, .int .i64 (b.toInt)), (10, .int .i64 (((a >>> (b &&& 63))).toInt))]) (l := [.int .i64 (nn.toInt), .int .i64 (((a + b)).toInt), .int .i64 (((a - b)).toInt), .int .i64 (((a * b)).toInt), .int .i64 (((a &&& b)).toInt), .int .i64 (((a ||| b)).toInt), .int .i64 (((a ^^^ b)).toInt), .int .i64 1, .int .i64 0, .int .i64 (b.toInt), .int .i64 (((a >>> (b &&& 63))).toInt)]) (evc rfl (evc rfl (evc rfl (evc rfl (evc rfl (evc rfl (evc rfl (evc rfl (evc rfl (evc rfl (evc rfl evn))))))))))) (fun w => by kernel_rfl) ?_
        intro b_9
        refine s_y (v := .int .i64 ((((1 + ((u64of code) % 11)) : Nat) : Int))) (y_move rfl) rfl ?_
        refine s_y (v := .int .i64 ((((u64of code % 11) : Nat) : Int))) (y_sub (a := (((1 + ((u64of code) % 11)) : Nat) : Int)) (b := 1) (c := (((u64of code % 11) : Nat) : Int)) rfl rfl (wI (by omega) (by omega) (by omega))) rfl ?_
        refine s_y (v := .pointer (some ⟨aB (some ⟨b_9, 0, none⟩), aO (some ⟨b_9, 0, none⟩) + (u64of code % 11) * 1, none⟩)) (y_idx (o := (u64of code % 11) * 1) rfl rfl Try.underlying98 Try.sizeOf2 (fun w hs => (show Rds w _ ([nn, (a + b), (a - b), (a * b), (a &&& b), (a ||| b), (a ^^^ b), 1, 0, b, (a >>> (b &&& 63))].flatMap i64V) from celR .h w hs)) (fl_len i64V_len _) (by decide) (by omega) (by omega) (by omega)) rfl ?_
        refine s_y (v := .int .i64 (((([nn, (a + b), (a - b), (a * b), (a &&& b), (a ||| b), (a ^^^ b), 1, 0, b, (a >>> (b &&& 63))]).getD (u64of code % 11) default)).toInt)) (y_load1 (v := .int .i64 (((([nn, (a + b), (a - b), (a * b), (a &&& b), (a ||| b), (a ^^^ b), 1, 0, b, (a >>> (b &&& 63))]).getD (u64of code % 11) default)).toInt)) rfl Try.isAgg2 (rd1 (k := (u64of code % 11) * 1) (fun w hs => (show Rds w _ ([nn, (a + b), (a - b), (a * b), (a &&& b), (a ||| b), (a ^^^ b), 1, 0, b, (a >>> (b &&& 63))].flatMap i64V) from celR .h w hs)) (fl_get0 i64V_len ([nn, (a + b), (a - b), (a * b), (a &&& b), (a ||| b), (a ^^^ b), 1, 0, b, (a >>> (b &&& 63))]) (u64of code % 11) (by show _ < 11; omega) rfl))) rfl ?_
        refine s_y (v := .int .i64 (((([nn, (a + b), (a - b), (a * b), (a &&& b), (a ||| b), (a ^^^ b), 1, 0, b, (a >>> (b &&& 63))]).getD (u64of code % 11) default)).toInt)) (y_assign rfl) rfl ?_
        refine wpL_nil ?_
        refine thenS_n ?_
        refine wpS_seq ?_
        refine wpS_region ?_
        refine s_y (v := .bool true) (y_call (args := #[]) (v := .bool true) Try.call82 ev0 (fun w hs => awake11_c w)) rfl ?_
        refine s_y (v := .bool true) (y_move rfl) rfl ?_
        refine s_gy (y_loadN (vs := [.int .i64 1, .slice none 0 0, .slice none 0 0, .slice (some ⟨b_1, 0, none⟩) 2 2]) rfl Try.isAgg84 Try.sizeOf84 (ownN (.t .h) rfl)) rfl rfl rfl rfl rfl rfl ?_
        refine s_gy (y_move rfl) rfl rfl rfl rfl rfl rfl ?_
        refine s_gy (y_move rfl) rfl rfl rfl rfl rfl rfl ?_
        refine s_gy (y_call (args := #[.agg #[.int .i64 1, .slice none 0 0, .slice none 0 0, .slice (some ⟨b_1, 0, none⟩) 2 2], .int .i64 (b.toInt), .int .i64 (a.toInt)]) (v := .int .i64 (((doneC (chkB 1 ([]) ([]) ([(Opc.mk 1 2 0 0 0 c), (Opc.mk (((1 + ((u64of code) % 11)) : Nat) : Int) 0 0 1 2 nn)])) ([(Opc.mk 1 2 0 0 0 c), (Opc.mk (((1 + ((u64of code) % 11)) : Nat) : Int) 0 0 1 2 nn)]) a b)).toInt)) Try.call89 (ev3 rfl rfl rfl) (fun w hs => finish_c 1 none none (some ⟨b_1, 0, none⟩) 0 0 0 0 2 2 ([]) ([]) ([(Opc.mk 1 2 0 0 0 c), (Opc.mk (((1 + ((u64of code) % 11)) : Nat) : Int) 0 0 1 2 nn)]) b a w (by first | rfl | (simp only [List.length_set]; done) | omega) (Rds.nil _ _) (by omega) (by first | rfl | (simp only [List.length_set]; done) | omega) (Rds.nil _ _) (by omega) (by first | rfl | (simp only [List.length_set]; done) | omega) (celR (.t (.t .h)) w hs) (by omega))) rfl rfl rfl rfl rfl rfl ?_
        refine s_gy (y_move rfl) rfl rfl rfl rfl rfl rfl ?_
        refine s_gy (y_eql (a := ((doneC (chkB 1 ([]) ([]) ([(Opc.mk 1 2 0 0 0 c), (Opc.mk (((1 + ((u64of code) % 11)) : Nat) : Int) 0 0 1 2 nn)])) ([(Opc.mk 1 2 0 0 0 c), (Opc.mk (((1 + ((u64of code) % 11)) : Nat) : Int) 0 0 1 2 nn)]) a b)).toInt) (b := ((([nn, (a + b), (a - b), (a * b), (a &&& b), (a ||| b), (a ^^^ b), 1, 0, b, (a >>> (b &&& 63))]).getD (u64of code % 11) default)).toInt) (c := decide ((doneC (chkB 1 ([]) ([]) ([(Opc.mk 1 2 0 0 0 c), (Opc.mk (((1 + ((u64of code) % 11)) : Nat) : Int) 0 0 1 2 nn)])) ([(Opc.mk 1 2 0 0 0 c), (Opc.mk (((1 + ((u64of code) % 11)) : Nat) : Int) 0 0 1 2 nn)]) a b) = (([nn, (a + b), (a - b), (a * b), (a &&& b), (a ||| b), (a ^^^ b), 1, 0, b, (a >>> (b &&& 63))]).getD (u64of code % 11) default))) rfl rfl (i_eql _ _)) rfl rfl rfl rfl rfl rfl ?_
        refine s_y (v := .bool (decide ((doneC (chkB 1 ([]) ([]) ([(Opc.mk 1 2 0 0 0 c), (Opc.mk (((1 + ((u64of code) % 11)) : Nat) : Int) 0 0 1 2 nn)])) ([(Opc.mk 1 2 0 0 0 c), (Opc.mk (((1 + ((u64of code) % 11)) : Nat) : Int) 0 0 1 2 nn)]) a b) = (([nn, (a + b), (a - b), (a * b), (a &&& b), (a ||| b), (a ^^^ b), 1, 0, b, (a >>> (b &&& 63))]).getD (u64of code % 11) default)))) (y_pickT (v := .bool (decide ((doneC (chkB 1 ([]) ([]) ([(Opc.mk 1 2 0 0 0 c), (Opc.mk (((1 + ((u64of code) % 11)) : Nat) : Int) 0 0 1 2 nn)])) ([(Opc.mk 1 2 0 0 0 c), (Opc.mk (((1 + ((u64of code) % 11)) : Nat) : Int) 0 0 1 2 nn)]) a b) = (([nn, (a + b), (a - b), (a * b), (a &&& b), (a ||| b), (a ^^^ b), 1, 0, b, (a >>> (b &&& 63))]).getD (u64of code % 11) default)))) rfl rfl rfl) rfl ?_
        refine s_y (v := .bool (decide ((doneC (chkB 1 ([]) ([]) ([(Opc.mk 1 2 0 0 0 c), (Opc.mk (((1 + ((u64of code) % 11)) : Nat) : Int) 0 0 1 2 nn)])) ([(Opc.mk 1 2 0 0 0 c), (Opc.mk (((1 + ((u64of code) % 11)) : Nat) : Int) 0 0 1 2 nn)]) a b) = (([nn, (a + b), (a - b), (a * b), (a &&& b), (a ||| b), (a ^^^ b), 1, 0, b, (a >>> (b &&& 63))]).getD (u64of code % 11) default)))) (y_assign rfl) rfl ?_
        refine wpL_nil ?_
        refine thenS_n ?_
        refine wpS_ret ?_
        refine fin1 (v := .bool (decide ((doneC (chkB 1 ([]) ([]) ([(Opc.mk 1 2 0 0 0 c), (Opc.mk (((1 + ((u64of code) % 11)) : Nat) : Int) 0 0 1 2 nn)])) ([(Opc.mk 1 2 0 0 0 c), (Opc.mk (((1 + ((u64of code) % 11)) : Nat) : Int) 0 0 1 2 nn)]) a b) = (([nn, (a + b), (a - b), (a * b), (a &&& b), (a ||| b), (a ^^^ b), 1, 0, b, (a >>> (b &&& 63))]).getD (u64of code % 11) default)))) (.inr rfl) (.nil) Try.results22 rfl ?_
        exact fun w' hs => ⟨congrArg (fun b => Ending.returned (Value.bool b)) (show (decide ((doneC (chkB 1 ([]) ([]) ([(Opc.mk 1 2 0 0 0 c), (Opc.mk (((1 + ((u64of code) % 11)) : Nat) : Int) 0 0 1 2 nn)])) ([(Opc.mk 1 2 0 0 0 c), (Opc.mk (((1 + ((u64of code) % 11)) : Nat) : Int) 0 0 1 2 nn)]) a b) = (([nn, (a + b), (a - b), (a * b), (a &&& b), (a ||| b), (a ^^^ b), 1, 0, b, (a >>> (b &&& 63))]).getD (u64of code % 11) default))) = true from (decide_eq_true (ops_fin (by omega) _ _ _ _ _ _ _ (by first | (rw [decide_eq_true (by assumption)]; rfl) | (rw [decide_eq_false (by assumption)]; rfl)) (by first | (rw [decide_eq_true (by assumption)]; rfl) | (rw [decide_eq_false (by assumption)]; rfl)) (by first | rw [if_neg (by assumption)] | rw [if_pos (Decidable.not_not.1 (by assumption))])))), hs⟩
      · -- decide (a ≠ 0) false
        have p8 := of_decide_eq_false b8
        refine wpS_skip ?_
        refine thenS_n ?_
        refine wpS_seq ?_
        refine wpS_region ?_
        refine s_y (v := .int .i64 (nn.toInt)) (y_move rfl) rfl ?_
        refine s_y (v := .int .i64 (a.toInt)) (y_move rfl) rfl ?_
        refine s_y (v := .int .i64 (b.toInt)) (y_move rfl) rfl ?_
        refine s_y (v := .int .i64 (((a + b)).toInt)) (y_add (a := a.toInt) (b := b.toInt) (c := ((a + b)).toInt) rfl rfl (i_add _ _)) rfl ?_
        refine s_y (v := .int .i64 (a.toInt)) (y_move rfl) rfl ?_
        refine s_y (v := .int .i64 (b.toInt)) (y_move rfl) rfl ?_
        refine s_y (v := .int .i64 (((a - b)).toInt)) (y_sub (a := a.toInt) (b := b.toInt) (c := ((a - b)).toInt) rfl rfl (i_sub _ _)) rfl ?_
        refine s_y (v := .int .i64 (a.toInt)) (y_move rfl) rfl ?_
        refine s_y (v := .int .i64 (b.toInt)) (y_move rfl) rfl ?_
        refine s_y (v := .int .i64 (((a * b)).toInt)) (y_mul (a := a.toInt) (b := b.toInt) (c := ((a * b)).toInt) rfl rfl (i_mul _ _)) rfl ?_
        refine s_y (v := .int .i64 (a.toInt)) (y_move rfl) rfl ?_
        refine s_y (v := .int .i64 (b.toInt)) (y_move rfl) rfl ?_
        refine s_y (v := .int .i64 (((a &&& b)).toInt)) (y_and (a := a.toInt) (b := b.toInt) (c := ((a &&& b)).toInt) rfl rfl (i_and _ _)) rfl ?_
        refine s_y (v := .int .i64 (a.toInt)) (y_move rfl) rfl ?_
        refine s_y (v := .int .i64 (b.toInt)) (y_move rfl) rfl ?_
        refine s_y (v := .int .i64 (((a ||| b)).toInt)) (y_or (a := a.toInt) (b := b.toInt) (c := ((a ||| b)).toInt) rfl rfl (i_or _ _)) rfl ?_
        refine s_y (v := .int .i64 (a.toInt)) (y_move rfl) rfl ?_
        refine s_y (v := .int .i64 (b.toInt)) (y_move rfl) rfl ?_
        refine s_y (v := .int .i64 (((a ^^^ b)).toInt)) (y_xor (a := a.toInt) (b := b.toInt) (c := ((a ^^^ b)).toInt) rfl rfl (i_xor _ _)) rfl ?_
        refine s_y (v := .int .i64 1) (y_move rfl) rfl ?_
        refine s_y (v := .int .i64 0) (y_move rfl) rfl ?_
        refine s_y (v := .int .i64 (c.toInt)) (y_move rfl) rfl ?_
        refine s_y (v := .int .i64 (a.toInt)) (y_move rfl) rfl ?_
        refine s_y (v := .int .i64 (b.toInt)) (y_move rfl) rfl ?_
        refine s_y (v := .int .i64 (((b &&& 63)).toInt)) (y_and (a := b.toInt) (b := 63) (c := ((b &&& 63)).toInt) rfl rfl (i_and b 63)) rfl ?_
        refine s_y (v := .int .u64 (((b &&& 63).toUInt64).toNat)) (y_convI (a := ((b &&& 63)).toInt) (c := ((b &&& 63).toUInt64).toNat) rfl Try.underlying2 Try.underlying46 (iu_conv _)) rfl ?_
        refine s_y (v := .int .i64 (((a >>> (b &&& 63))).toInt)) (y_shr (a := a.toInt) (b := ((b &&& 63).toUInt64).toNat) (c := ((a >>> (b &&& 63))).toInt) rfl rfl (by omega) (i_sar a b)) rfl ?_
        refine s_e rfl ?_
        refine e_bsliceL (e := 2) (m := [(0, .int .i64 (nn.toInt)), (1, .int .i64 (((a + b)).toInt)), (2, .int .i64 (((a - b)).toInt)), (3, .int .i64 (((a * b)).toInt)), (4, .int .i64 (((a &&& b)).toInt)), (5, .int .i64 (((a ||| b)).toInt)), (6, .int .i64 (((a ^^^ b)).toInt)), (7, .int .i64 1), (8, .int .i64 0), (9, .int .i64 (c.toInt)), (10, .int .i64 (((a >>> (b &&& 63))).toInt))]) (l := [.int .i64 (nn.toInt), .int .i64 (((a + b)).toInt), .int .i64 (((a - b)).toInt), .int .i64 (((a * b)).toInt), .int .i64 (((a &&& b)).toInt), .int .i64 (((a ||| b)).toInt), .int .i64 (((a ^^^ b)).toInt), .int .i64 1, .int .i64 0, .int .i64 (c.toInt), .int .i64 (((a >>> (b &&& 63))).toInt)]) (evc rfl (evc rfl (evc rfl (evc rfl (evc rfl (evc rfl (evc rfl (evc rfl (evc rfl (evc rfl (evc rfl evn))))))))))) (fun w => by kernel_rfl) ?_
        intro b_10
        refine s_y (v := .int .i64 ((((1 + ((u64of code) % 11)) : Nat) : Int))) (y_move rfl) rfl ?_
        refine s_y (v := .int .i64 ((((u64of code % 11) : Nat) : Int))) (y_sub (a := (((1 + ((u64of code) % 11)) : Nat) : Int)) (b := 1) (c := (((u64of code % 11) : Nat) : Int)) rfl rfl (wI (by omega) (by omega) (by omega))) rfl ?_
        refine s_y (v := .pointer (some ⟨aB (some ⟨b_10, 0, none⟩), aO (some ⟨b_10, 0, none⟩) + (u64of code % 11) * 1, none⟩)) (y_idx (o := (u64of code % 11) * 1) rfl rfl Try.underlying98 Try.sizeOf2 (fun w hs => (show Rds w _ ([nn, (a + b), (a - b), (a * b), (a &&& b), (a ||| b), (a ^^^ b), 1, 0, c, (a >>> (b &&& 63))].flatMap i64V) from celR .h w hs)) (fl_len i64V_len _) (by decide) (by omega) (by omega) (by omega)) rfl ?_
        refine s_y (v := .int .i64 (((([nn, (a + b), (a - b), (a * b), (a &&& b), (a ||| b), (a ^^^ b), 1, 0, c, (a >>> (b &&& 63))]).getD (u64of code % 11) default)).toInt)) (y_load1 (v := .int .i64 (((([nn, (a + b), (a - b), (a * b), (a &&& b), (a ||| b), (a ^^^ b), 1, 0, c, (a >>> (b &&& 63))]).getD (u64of code % 11) default)).toInt)) rfl Try.isAgg2 (rd1 (k := (u64of code % 11) * 1) (fun w hs => (show Rds w _ ([nn, (a + b), (a - b), (a * b), (a &&& b), (a ||| b), (a ^^^ b), 1, 0, c, (a >>> (b &&& 63))].flatMap i64V) from celR .h w hs)) (fl_get0 i64V_len ([nn, (a + b), (a - b), (a * b), (a &&& b), (a ||| b), (a ^^^ b), 1, 0, c, (a >>> (b &&& 63))]) (u64of code % 11) (by show _ < 11; omega) rfl))) rfl ?_
        refine s_y (v := .int .i64 (((([nn, (a + b), (a - b), (a * b), (a &&& b), (a ||| b), (a ^^^ b), 1, 0, c, (a >>> (b &&& 63))]).getD (u64of code % 11) default)).toInt)) (y_assign rfl) rfl ?_
        refine wpL_nil ?_
        refine thenS_n ?_
        refine wpS_seq ?_
        refine wpS_region ?_
        refine s_y (v := .bool true) (y_call (args := #[]) (v := .bool true) Try.call82 ev0 (fun w hs => awake11_c w)) rfl ?_
        refine s_y (v := .bool true) (y_move rfl) rfl ?_
        refine s_gy (y_loadN (vs := [.int .i64 1, .slice none 0 0, .slice none 0 0, .slice (some ⟨b_1, 0, none⟩) 2 2]) rfl Try.isAgg84 Try.sizeOf84 (ownN (.t .h) rfl)) rfl rfl rfl rfl rfl rfl ?_
        refine s_gy (y_move rfl) rfl rfl rfl rfl rfl rfl ?_
        refine s_gy (y_move rfl) rfl rfl rfl rfl rfl rfl ?_
        refine s_gy (y_call (args := #[.agg #[.int .i64 1, .slice none 0 0, .slice none 0 0, .slice (some ⟨b_1, 0, none⟩) 2 2], .int .i64 (b.toInt), .int .i64 (a.toInt)]) (v := .int .i64 (((doneC (chkB 1 ([]) ([]) ([(Opc.mk 1 2 0 0 0 c), (Opc.mk (((1 + ((u64of code) % 11)) : Nat) : Int) 0 0 1 2 nn)])) ([(Opc.mk 1 2 0 0 0 c), (Opc.mk (((1 + ((u64of code) % 11)) : Nat) : Int) 0 0 1 2 nn)]) a b)).toInt)) Try.call89 (ev3 rfl rfl rfl) (fun w hs => finish_c 1 none none (some ⟨b_1, 0, none⟩) 0 0 0 0 2 2 ([]) ([]) ([(Opc.mk 1 2 0 0 0 c), (Opc.mk (((1 + ((u64of code) % 11)) : Nat) : Int) 0 0 1 2 nn)]) b a w (by first | rfl | (simp only [List.length_set]; done) | omega) (Rds.nil _ _) (by omega) (by first | rfl | (simp only [List.length_set]; done) | omega) (Rds.nil _ _) (by omega) (by first | rfl | (simp only [List.length_set]; done) | omega) (celR (.t (.t .h)) w hs) (by omega))) rfl rfl rfl rfl rfl rfl ?_
        refine s_gy (y_move rfl) rfl rfl rfl rfl rfl rfl ?_
        refine s_gy (y_eql (a := ((doneC (chkB 1 ([]) ([]) ([(Opc.mk 1 2 0 0 0 c), (Opc.mk (((1 + ((u64of code) % 11)) : Nat) : Int) 0 0 1 2 nn)])) ([(Opc.mk 1 2 0 0 0 c), (Opc.mk (((1 + ((u64of code) % 11)) : Nat) : Int) 0 0 1 2 nn)]) a b)).toInt) (b := ((([nn, (a + b), (a - b), (a * b), (a &&& b), (a ||| b), (a ^^^ b), 1, 0, c, (a >>> (b &&& 63))]).getD (u64of code % 11) default)).toInt) (c := decide ((doneC (chkB 1 ([]) ([]) ([(Opc.mk 1 2 0 0 0 c), (Opc.mk (((1 + ((u64of code) % 11)) : Nat) : Int) 0 0 1 2 nn)])) ([(Opc.mk 1 2 0 0 0 c), (Opc.mk (((1 + ((u64of code) % 11)) : Nat) : Int) 0 0 1 2 nn)]) a b) = (([nn, (a + b), (a - b), (a * b), (a &&& b), (a ||| b), (a ^^^ b), 1, 0, c, (a >>> (b &&& 63))]).getD (u64of code % 11) default))) rfl rfl (i_eql _ _)) rfl rfl rfl rfl rfl rfl ?_
        refine s_y (v := .bool (decide ((doneC (chkB 1 ([]) ([]) ([(Opc.mk 1 2 0 0 0 c), (Opc.mk (((1 + ((u64of code) % 11)) : Nat) : Int) 0 0 1 2 nn)])) ([(Opc.mk 1 2 0 0 0 c), (Opc.mk (((1 + ((u64of code) % 11)) : Nat) : Int) 0 0 1 2 nn)]) a b) = (([nn, (a + b), (a - b), (a * b), (a &&& b), (a ||| b), (a ^^^ b), 1, 0, c, (a >>> (b &&& 63))]).getD (u64of code % 11) default)))) (y_pickT (v := .bool (decide ((doneC (chkB 1 ([]) ([]) ([(Opc.mk 1 2 0 0 0 c), (Opc.mk (((1 + ((u64of code) % 11)) : Nat) : Int) 0 0 1 2 nn)])) ([(Opc.mk 1 2 0 0 0 c), (Opc.mk (((1 + ((u64of code) % 11)) : Nat) : Int) 0 0 1 2 nn)]) a b) = (([nn, (a + b), (a - b), (a * b), (a &&& b), (a ||| b), (a ^^^ b), 1, 0, c, (a >>> (b &&& 63))]).getD (u64of code % 11) default)))) rfl rfl rfl) rfl ?_
        refine s_y (v := .bool (decide ((doneC (chkB 1 ([]) ([]) ([(Opc.mk 1 2 0 0 0 c), (Opc.mk (((1 + ((u64of code) % 11)) : Nat) : Int) 0 0 1 2 nn)])) ([(Opc.mk 1 2 0 0 0 c), (Opc.mk (((1 + ((u64of code) % 11)) : Nat) : Int) 0 0 1 2 nn)]) a b) = (([nn, (a + b), (a - b), (a * b), (a &&& b), (a ||| b), (a ^^^ b), 1, 0, c, (a >>> (b &&& 63))]).getD (u64of code % 11) default)))) (y_assign rfl) rfl ?_
        refine wpL_nil ?_
        refine thenS_n ?_
        refine wpS_ret ?_
        refine fin1 (v := .bool (decide ((doneC (chkB 1 ([]) ([]) ([(Opc.mk 1 2 0 0 0 c), (Opc.mk (((1 + ((u64of code) % 11)) : Nat) : Int) 0 0 1 2 nn)])) ([(Opc.mk 1 2 0 0 0 c), (Opc.mk (((1 + ((u64of code) % 11)) : Nat) : Int) 0 0 1 2 nn)]) a b) = (([nn, (a + b), (a - b), (a * b), (a &&& b), (a ||| b), (a ^^^ b), 1, 0, c, (a >>> (b &&& 63))]).getD (u64of code % 11) default)))) (.inr rfl) (.nil) Try.results22 rfl ?_
        exact fun w' hs => ⟨congrArg (fun b => Ending.returned (Value.bool b)) (show (decide ((doneC (chkB 1 ([]) ([]) ([(Opc.mk 1 2 0 0 0 c), (Opc.mk (((1 + ((u64of code) % 11)) : Nat) : Int) 0 0 1 2 nn)])) ([(Opc.mk 1 2 0 0 0 c), (Opc.mk (((1 + ((u64of code) % 11)) : Nat) : Int) 0 0 1 2 nn)]) a b) = (([nn, (a + b), (a - b), (a * b), (a &&& b), (a ||| b), (a ^^^ b), 1, 0, c, (a >>> (b &&& 63))]).getD (u64of code % 11) default))) = true from (decide_eq_true (ops_fin (by omega) _ _ _ _ _ _ _ (by first | (rw [decide_eq_true (by assumption)]; rfl) | (rw [decide_eq_false (by assumption)]; rfl)) (by first | (rw [decide_eq_true (by assumption)]; rfl) | (rw [decide_eq_false (by assumption)]; rfl)) (by first | rw [if_neg (by assumption)] | rw [if_pos (Decidable.not_not.1 (by assumption))])))), hs⟩
  · -- decide (a < b) false
    have p3 := of_decide_eq_false b3
    refine wpS_skip ?_
    refine thenS_n ?_
    refine wpS_seq ?_
    refine wpS_seq ?_
    refine wpS_region ?_
    refine s_y (v := .int .i64 (a.toInt)) (y_move rfl) rfl ?_
    refine s_y (v := .int .i64 (b.toInt)) (y_move rfl) rfl ?_
    refine s_y (v := .bool (decide (a = b))) (y_eql (a := a.toInt) (b := b.toInt) (c := decide (a = b)) rfl rfl (i_eql _ _)) rfl ?_
    refine wpL_nil ?_
    refine thenS_n ?_
    refine wpS_cond (t := decide (a = b)) rfl (fun b11 => ?_) (fun b11 => ?_)
    · -- decide (a = b) true
      have p11 := of_decide_eq_true b11
      refine wpS_region ?_
      refine s_y (v := .int .i64 1) (y_assign rfl) rfl ?_
      refine wpL_nil ?_
      refine thenS_n ?_
      refine wpS_seq ?_
      refine wpS_seq ?_
      refine wpS_region ?_
      refine s_y (v := .int .i64 (a.toInt)) (y_move rfl) rfl ?_
      refine s_y (v := .bool (decide (a ≠ 0))) (y_neq (a := a.toInt) (b := 0) (c := decide (a ≠ 0)) rfl rfl (i_neqL _ 0 (by decide))) rfl ?_
      refine wpL_nil ?_
      refine thenS_n ?_
      refine wpS_cond (t := decide (a ≠ 0)) rfl (fun b12 => ?_) (fun b12 => ?_)
      · -- decide (a ≠ 0) true
        have p12 := of_decide_eq_true b12
        refine wpS_region ?_
        refine s_y (v := .int .i64 (b.toInt)) (y_move rfl) rfl ?_
        refine s_y (v := .int .i64 (b.toInt)) (y_assign rfl) rfl ?_
        refine wpL_nil ?_
        refine thenS_n ?_
        refine wpS_seq ?_
        refine wpS_region ?_
        refine s_y (v := .int .i64 (nn.toInt)) (y_move rfl) rfl ?_
        refine s_y (v := .int .i64 (a.toInt)) (y_move rfl) rfl ?_
        refine s_y (v := .int .i64 (b.toInt)) (y_move rfl) rfl ?_
        refine s_y (v := .int .i64 (((a + b)).toInt)) (y_add (a := a.toInt) (b := b.toInt) (c := ((a + b)).toInt) rfl rfl (i_add _ _)) rfl ?_
        refine s_y (v := .int .i64 (a.toInt)) (y_move rfl) rfl ?_
        refine s_y (v := .int .i64 (b.toInt)) (y_move rfl) rfl ?_
        refine s_y (v := .int .i64 (((a - b)).toInt)) (y_sub (a := a.toInt) (b := b.toInt) (c := ((a - b)).toInt) rfl rfl (i_sub _ _)) rfl ?_
        refine s_y (v := .int .i64 (a.toInt)) (y_move rfl) rfl ?_
        refine s_y (v := .int .i64 (b.toInt)) (y_move rfl) rfl ?_
        refine s_y (v := .int .i64 (((a * b)).toInt)) (y_mul (a := a.toInt) (b := b.toInt) (c := ((a * b)).toInt) rfl rfl (i_mul _ _)) rfl ?_
        refine s_y (v := .int .i64 (a.toInt)) (y_move rfl) rfl ?_
        refine s_y (v := .int .i64 (b.toInt)) (y_move rfl) rfl ?_
        refine s_y (v := .int .i64 (((a &&& b)).toInt)) (y_and (a := a.toInt) (b := b.toInt) (c := ((a &&& b)).toInt) rfl rfl (i_and _ _)) rfl ?_
        refine s_y (v := .int .i64 (a.toInt)) (y_move rfl) rfl ?_
        refine s_y (v := .int .i64 (b.toInt)) (y_move rfl) rfl ?_
        refine s_y (v := .int .i64 (((a ||| b)).toInt)) (y_or (a := a.toInt) (b := b.toInt) (c := ((a ||| b)).toInt) rfl rfl (i_or _ _)) rfl ?_
        refine s_y (v := .int .i64 (a.toInt)) (y_move rfl) rfl ?_
        refine s_y (v := .int .i64 (b.toInt)) (y_move rfl) rfl ?_
        refine s_y (v := .int .i64 (((a ^^^ b)).toInt)) (y_xor (a := a.toInt) (b := b.toInt) (c := ((a ^^^ b)).toInt) rfl rfl (i_xor _ _)) rfl ?_
        refine s_y (v := .int .i64 0) (y_move rfl) rfl ?_
        refine s_y (v := .int .i64 1) (y_move rfl) rfl ?_
        refine s_y (v := .int .i64 (b.toInt)) (y_move rfl) rfl ?_
        refine s_y (v := .int .i64 (a.toInt)) (y_move rfl) rfl ?_
        refine s_y (v := .int .i64 (b.toInt)) (y_move rfl) rfl ?_
        refine s_y (v := .int .i64 (((b &&& 63)).toInt)) (y_and (a := b.toInt) (b := 63) (c := ((b &&& 63)).toInt) rfl rfl (i_and b 63)) rfl ?_
        refine s_y (v := .int .u64 (((b &&& 63).toUInt64).toNat)) (y_convI (a := ((b &&& 63)).toInt) (c := ((b &&& 63).toUInt64).toNat) rfl Try.underlying2 Try.underlying46 (iu_conv _)) rfl ?_
        refine s_y (v := .int .i64 (((a >>> (b &&& 63))).toInt)) (y_shr (a := a.toInt) (b := ((b &&& 63).toUInt64).toNat) (c := ((a >>> (b &&& 63))).toInt) rfl rfl (by omega) (i_sar a b)) rfl ?_
        refine s_e rfl ?_
        refine e_bsliceL (e := 2) (m := [(0, .int .i64 (nn.toInt)), (1, .int .i64 (((a + b)).toInt)), (2, .int .i64 (((a - b)).toInt)), (3, .int .i64 (((a * b)).toInt)), (4, .int .i64 (((a &&& b)).toInt)), (5, .int .i64 (((a ||| b)).toInt)), (6, .int .i64 (((a ^^^ b)).toInt)), (7, .int .i64 0), (8, .int .i64 1), (9, .int .i64 (b.toInt)), (10, .int .i64 (((a >>> (b &&& 63))).toInt))]) (l := [.int .i64 (nn.toInt), .int .i64 (((a + b)).toInt), .int .i64 (((a - b)).toInt), .int .i64 (((a * b)).toInt), .int .i64 (((a &&& b)).toInt), .int .i64 (((a ||| b)).toInt), .int .i64 (((a ^^^ b)).toInt), .int .i64 0, .int .i64 1, .int .i64 (b.toInt), .int .i64 (((a >>> (b &&& 63))).toInt)]) (evc rfl (evc rfl (evc rfl (evc rfl (evc rfl (evc rfl (evc rfl (evc rfl (evc rfl (evc rfl (evc rfl evn))))))))))) (fun w => by kernel_rfl) ?_
        intro b_13
        refine s_y (v := .int .i64 ((((1 + ((u64of code) % 11)) : Nat) : Int))) (y_move rfl) rfl ?_
        refine s_y (v := .int .i64 ((((u64of code % 11) : Nat) : Int))) (y_sub (a := (((1 + ((u64of code) % 11)) : Nat) : Int)) (b := 1) (c := (((u64of code % 11) : Nat) : Int)) rfl rfl (wI (by omega) (by omega) (by omega))) rfl ?_
        refine s_y (v := .pointer (some ⟨aB (some ⟨b_13, 0, none⟩), aO (some ⟨b_13, 0, none⟩) + (u64of code % 11) * 1, none⟩)) (y_idx (o := (u64of code % 11) * 1) rfl rfl Try.underlying98 Try.sizeOf2 (fun w hs => (show Rds w _ ([nn, (a + b), (a - b), (a * b), (a &&& b), (a ||| b), (a ^^^ b), 0, 1, b, (a >>> (b &&& 63))].flatMap i64V) from celR .h w hs)) (fl_len i64V_len _) (by decide) (by omega) (by omega) (by omega)) rfl ?_
        refine s_y (v := .int .i64 (((([nn, (a + b), (a - b), (a * b), (a &&& b), (a ||| b), (a ^^^ b), 0, 1, b, (a >>> (b &&& 63))]).getD (u64of code % 11) default)).toInt)) (y_load1 (v := .int .i64 (((([nn, (a + b), (a - b), (a * b), (a &&& b), (a ||| b), (a ^^^ b), 0, 1, b, (a >>> (b &&& 63))]).getD (u64of code % 11) default)).toInt)) rfl Try.isAgg2 (rd1 (k := (u64of code % 11) * 1) (fun w hs => (show Rds w _ ([nn, (a + b), (a - b), (a * b), (a &&& b), (a ||| b), (a ^^^ b), 0, 1, b, (a >>> (b &&& 63))].flatMap i64V) from celR .h w hs)) (fl_get0 i64V_len ([nn, (a + b), (a - b), (a * b), (a &&& b), (a ||| b), (a ^^^ b), 0, 1, b, (a >>> (b &&& 63))]) (u64of code % 11) (by show _ < 11; omega) rfl))) rfl ?_
        refine s_y (v := .int .i64 (((([nn, (a + b), (a - b), (a * b), (a &&& b), (a ||| b), (a ^^^ b), 0, 1, b, (a >>> (b &&& 63))]).getD (u64of code % 11) default)).toInt)) (y_assign rfl) rfl ?_
        refine wpL_nil ?_
        refine thenS_n ?_
        refine wpS_seq ?_
        refine wpS_region ?_
        refine s_y (v := .bool true) (y_call (args := #[]) (v := .bool true) Try.call82 ev0 (fun w hs => awake11_c w)) rfl ?_
        refine s_y (v := .bool true) (y_move rfl) rfl ?_
        refine s_gy (y_loadN (vs := [.int .i64 1, .slice none 0 0, .slice none 0 0, .slice (some ⟨b_1, 0, none⟩) 2 2]) rfl Try.isAgg84 Try.sizeOf84 (ownN (.t .h) rfl)) rfl rfl rfl rfl rfl rfl ?_
        refine s_gy (y_move rfl) rfl rfl rfl rfl rfl rfl ?_
        refine s_gy (y_move rfl) rfl rfl rfl rfl rfl rfl ?_
        refine s_gy (y_call (args := #[.agg #[.int .i64 1, .slice none 0 0, .slice none 0 0, .slice (some ⟨b_1, 0, none⟩) 2 2], .int .i64 (b.toInt), .int .i64 (a.toInt)]) (v := .int .i64 (((doneC (chkB 1 ([]) ([]) ([(Opc.mk 1 2 0 0 0 c), (Opc.mk (((1 + ((u64of code) % 11)) : Nat) : Int) 0 0 1 2 nn)])) ([(Opc.mk 1 2 0 0 0 c), (Opc.mk (((1 + ((u64of code) % 11)) : Nat) : Int) 0 0 1 2 nn)]) a b)).toInt)) Try.call89 (ev3 rfl rfl rfl) (fun w hs => finish_c 1 none none (some ⟨b_1, 0, none⟩) 0 0 0 0 2 2 ([]) ([]) ([(Opc.mk 1 2 0 0 0 c), (Opc.mk (((1 + ((u64of code) % 11)) : Nat) : Int) 0 0 1 2 nn)]) b a w (by first | rfl | (simp only [List.length_set]; done) | omega) (Rds.nil _ _) (by omega) (by first | rfl | (simp only [List.length_set]; done) | omega) (Rds.nil _ _) (by omega) (by first | rfl | (simp only [List.length_set]; done) | omega) (celR (.t (.t .h)) w hs) (by omega))) rfl rfl rfl rfl rfl rfl ?_
        refine s_gy (y_move rfl) rfl rfl rfl rfl rfl rfl ?_
        refine s_gy (y_eql (a := ((doneC (chkB 1 ([]) ([]) ([(Opc.mk 1 2 0 0 0 c), (Opc.mk (((1 + ((u64of code) % 11)) : Nat) : Int) 0 0 1 2 nn)])) ([(Opc.mk 1 2 0 0 0 c), (Opc.mk (((1 + ((u64of code) % 11)) : Nat) : Int) 0 0 1 2 nn)]) a b)).toInt) (b := ((([nn, (a + b), (a - b), (a * b), (a &&& b), (a ||| b), (a ^^^ b), 0, 1, b, (a >>> (b &&& 63))]).getD (u64of code % 11) default)).toInt) (c := decide ((doneC (chkB 1 ([]) ([]) ([(Opc.mk 1 2 0 0 0 c), (Opc.mk (((1 + ((u64of code) % 11)) : Nat) : Int) 0 0 1 2 nn)])) ([(Opc.mk 1 2 0 0 0 c), (Opc.mk (((1 + ((u64of code) % 11)) : Nat) : Int) 0 0 1 2 nn)]) a b) = (([nn, (a + b), (a - b), (a * b), (a &&& b), (a ||| b), (a ^^^ b), 0, 1, b, (a >>> (b &&& 63))]).getD (u64of code % 11) default))) rfl rfl (i_eql _ _)) rfl rfl rfl rfl rfl rfl ?_
        refine s_y (v := .bool (decide ((doneC (chkB 1 ([]) ([]) ([(Opc.mk 1 2 0 0 0 c), (Opc.mk (((1 + ((u64of code) % 11)) : Nat) : Int) 0 0 1 2 nn)])) ([(Opc.mk 1 2 0 0 0 c), (Opc.mk (((1 + ((u64of code) % 11)) : Nat) : Int) 0 0 1 2 nn)]) a b) = (([nn, (a + b), (a - b), (a * b), (a &&& b), (a ||| b), (a ^^^ b), 0, 1, b, (a >>> (b &&& 63))]).getD (u64of code % 11) default)))) (y_pickT (v := .bool (decide ((doneC (chkB 1 ([]) ([]) ([(Opc.mk 1 2 0 0 0 c), (Opc.mk (((1 + ((u64of code) % 11)) : Nat) : Int) 0 0 1 2 nn)])) ([(Opc.mk 1 2 0 0 0 c), (Opc.mk (((1 + ((u64of code) % 11)) : Nat) : Int) 0 0 1 2 nn)]) a b) = (([nn, (a + b), (a - b), (a * b), (a &&& b), (a ||| b), (a ^^^ b), 0, 1, b, (a >>> (b &&& 63))]).getD (u64of code % 11) default)))) rfl rfl rfl) rfl ?_
        refine s_y (v := .bool (decide ((doneC (chkB 1 ([]) ([]) ([(Opc.mk 1 2 0 0 0 c), (Opc.mk (((1 + ((u64of code) % 11)) : Nat) : Int) 0 0 1 2 nn)])) ([(Opc.mk 1 2 0 0 0 c), (Opc.mk (((1 + ((u64of code) % 11)) : Nat) : Int) 0 0 1 2 nn)]) a b) = (([nn, (a + b), (a - b), (a * b), (a &&& b), (a ||| b), (a ^^^ b), 0, 1, b, (a >>> (b &&& 63))]).getD (u64of code % 11) default)))) (y_assign rfl) rfl ?_
        refine wpL_nil ?_
        refine thenS_n ?_
        refine wpS_ret ?_
        refine fin1 (v := .bool (decide ((doneC (chkB 1 ([]) ([]) ([(Opc.mk 1 2 0 0 0 c), (Opc.mk (((1 + ((u64of code) % 11)) : Nat) : Int) 0 0 1 2 nn)])) ([(Opc.mk 1 2 0 0 0 c), (Opc.mk (((1 + ((u64of code) % 11)) : Nat) : Int) 0 0 1 2 nn)]) a b) = (([nn, (a + b), (a - b), (a * b), (a &&& b), (a ||| b), (a ^^^ b), 0, 1, b, (a >>> (b &&& 63))]).getD (u64of code % 11) default)))) (.inr rfl) (.nil) Try.results22 rfl ?_
        exact fun w' hs => ⟨congrArg (fun b => Ending.returned (Value.bool b)) (show (decide ((doneC (chkB 1 ([]) ([]) ([(Opc.mk 1 2 0 0 0 c), (Opc.mk (((1 + ((u64of code) % 11)) : Nat) : Int) 0 0 1 2 nn)])) ([(Opc.mk 1 2 0 0 0 c), (Opc.mk (((1 + ((u64of code) % 11)) : Nat) : Int) 0 0 1 2 nn)]) a b) = (([nn, (a + b), (a - b), (a * b), (a &&& b), (a ||| b), (a ^^^ b), 0, 1, b, (a >>> (b &&& 63))]).getD (u64of code % 11) default))) = true from (decide_eq_true (ops_fin (by omega) _ _ _ _ _ _ _ (by first | (rw [decide_eq_true (by assumption)]; rfl) | (rw [decide_eq_false (by assumption)]; rfl)) (by first | (rw [decide_eq_true (by assumption)]; rfl) | (rw [decide_eq_false (by assumption)]; rfl)) (by first | rw [if_neg (by assumption)] | rw [if_pos (Decidable.not_not.1 (by assumption))])))), hs⟩
      · -- decide (a ≠ 0) false
        have p12 := of_decide_eq_false b12
        refine wpS_skip ?_
        refine thenS_n ?_
        refine wpS_seq ?_
        refine wpS_region ?_
        refine s_y (v := .int .i64 (nn.toInt)) (y_move rfl) rfl ?_
        refine s_y (v := .int .i64 (a.toInt)) (y_move rfl) rfl ?_
        refine s_y (v := .int .i64 (b.toInt)) (y_move rfl) rfl ?_
        refine s_y (v := .int .i64 (((a + b)).toInt)) (y_add (a := a.toInt) (b := b.toInt) (c := ((a + b)).toInt) rfl rfl (i_add _ _)) rfl ?_
        refine s_y (v := .int .i64 (a.toInt)) (y_move rfl) rfl ?_
        refine s_y (v := .int .i64 (b.toInt)) (y_move rfl) rfl ?_
        refine s_y (v := .int .i64 (((a - b)).toInt)) (y_sub (a := a.toInt) (b := b.toInt) (c := ((a - b)).toInt) rfl rfl (i_sub _ _)) rfl ?_
        refine s_y (v := .int .i64 (a.toInt)) (y_move rfl) rfl ?_
        refine s_y (v := .int .i64 (b.toInt)) (y_move rfl) rfl ?_
        refine s_y (v := .int .i64 (((a * b)).toInt)) (y_mul (a := a.toInt) (b := b.toInt) (c := ((a * b)).toInt) rfl rfl (i_mul _ _)) rfl ?_
        refine s_y (v := .int .i64 (a.toInt)) (y_move rfl) rfl ?_
        refine s_y (v := .int .i64 (b.toInt)) (y_move rfl) rfl ?_
        refine s_y (v := .int .i64 (((a &&& b)).toInt)) (y_and (a := a.toInt) (b := b.toInt) (c := ((a &&& b)).toInt) rfl rfl (i_and _ _)) rfl ?_
        refine s_y (v := .int .i64 (a.toInt)) (y_move rfl) rfl ?_
        refine s_y (v := .int .i64 (b.toInt)) (y_move rfl) rfl ?_
        refine s_y (v := .int .i64 (((a ||| b)).toInt)) (y_or (a := a.toInt) (b := b.toInt) (c := ((a ||| b)).toInt) rfl rfl (i_or _ _)) rfl ?_
        refine s_y (v := .int .i64 (a.toInt)) (y_move rfl) rfl ?_
        refine s_y (v := .int .i64 (b.toInt)) (y_move rfl) rfl ?_
        refine s_y (v := .int .i64 (((a ^^^ b)).toInt)) (y_xor (a := a.toInt) (b := b.toInt) (c := ((a ^^^ b)).toInt) rfl rfl (i_xor _ _)) rfl ?_
        refine s_y (v := .int .i64 0) (y_move rfl) rfl ?_
        refine s_y (v := .int .i64 1) (y_move rfl) rfl ?_
        refine s_y (v := .int .i64 (c.toInt)) (y_move rfl) rfl ?_
        refine s_y (v := .int .i64 (a.toInt)) (y_move rfl) rfl ?_
        refine s_y (v := .int .i64 (b.toInt)) (y_move rfl) rfl ?_
        refine s_y (v := .int .i64 (((b &&& 63)).toInt)) (y_and (a := b.toInt) (b := 63) (c := ((b &&& 63)).toInt) rfl rfl (i_and b 63)) rfl ?_
        refine s_y (v := .int .u64 (((b &&& 63).toUInt64).toNat)) (y_convI (a := ((b &&& 63)).toInt) (c := ((b &&& 63).toUInt64).toNat) rfl Try.underlying2 Try.underlying46 (iu_conv _)) rfl ?_
        refine s_y (v := .int .i64 (((a >>> (b &&& 63))).toInt)) (y_shr (a := a.toInt) (b := ((b &&& 63).toUInt64).toNat) (c := ((a >>> (b &&& 63))).toInt) rfl rfl (by omega) (i_sar a b)) rfl ?_
        refine s_e rfl ?_
        refine e_bsliceL (e := 2) (m := [(0, .int .i64 (nn.toInt)), (1, .int .i64 (((a + b)).toInt)), (2, .int .i64 (((a - b)).toInt)), (3, .int .i64 (((a * b)).toInt)), (4, .int .i64 (((a &&& b)).toInt)), (5, .int .i64 (((a ||| b)).toInt)), (6, .int .i64 (((a ^^^ b)).toInt)), (7, .int .i64 0), (8, .int .i64 1), (9, .int .i64 (c.toInt)), (10, .int .i64 (((a >>> (b &&& 63))).toInt))]) (l := [.int .i64 (nn.toInt), .int .i64 (((a + b)).toInt), .int .i64 (((a - b)).toInt), .int .i64 (((a * b)).toInt), .int .i64 (((a &&& b)).toInt), .int .i64 (((a ||| b)).toInt), .int .i64 (((a ^^^ b)).toInt), .int .i64 0, .int .i64 1, .int .i64 (c.toInt), .int .i64 (((a >>> (b &&& 63))).toInt)]) (evc rfl (evc rfl (evc rfl (evc rfl (evc rfl (evc rfl (evc rfl (evc rfl (evc rfl (evc rfl (evc rfl evn))))))))))) (fun w => by kernel_rfl) ?_
        intro b_14
        refine s_y (v := .int .i64 ((((1 + ((u64of code) % 11)) : Nat) : Int))) (y_move rfl) rfl ?_
        refine s_y (v := .int .i64 ((((u64of code % 11) : Nat) : Int))) (y_sub (a := (((1 + ((u64of code) % 11)) : Nat) : Int)) (b := 1) (c := (((u64of code % 11) : Nat) : Int)) rfl rfl (wI (by omega) (by omega) (by omega))) rfl ?_
        refine s_y (v := .pointer (some ⟨aB (some ⟨b_14, 0, none⟩), aO (some ⟨b_14, 0, none⟩) + (u64of code % 11) * 1, none⟩)) (y_idx (o := (u64of code % 11) * 1) rfl rfl Try.underlying98 Try.sizeOf2 (fun w hs => (show Rds w _ ([nn, (a + b), (a - b), (a * b), (a &&& b), (a ||| b), (a ^^^ b), 0, 1, c, (a >>> (b &&& 63))].flatMap i64V) from celR .h w hs)) (fl_len i64V_len _) (by decide) (by omega) (by omega) (by omega)) rfl ?_
        refine s_y (v := .int .i64 (((([nn, (a + b), (a - b), (a * b), (a &&& b), (a ||| b), (a ^^^ b), 0, 1, c, (a >>> (b &&& 63))]).getD (u64of code % 11) default)).toInt)) (y_load1 (v := .int .i64 (((([nn, (a + b), (a - b), (a * b), (a &&& b), (a ||| b), (a ^^^ b), 0, 1, c, (a >>> (b &&& 63))]).getD (u64of code % 11) default)).toInt)) rfl Try.isAgg2 (rd1 (k := (u64of code % 11) * 1) (fun w hs => (show Rds w _ ([nn, (a + b), (a - b), (a * b), (a &&& b), (a ||| b), (a ^^^ b), 0, 1, c, (a >>> (b &&& 63))].flatMap i64V) from celR .h w hs)) (fl_get0 i64V_len ([nn, (a + b), (a - b), (a * b), (a &&& b), (a ||| b), (a ^^^ b), 0, 1, c, (a >>> (b &&& 63))]) (u64of code % 11) (by show _ < 11; omega) rfl))) rfl ?_
        refine s_y (v := .int .i64 (((([nn, (a + b), (a - b), (a * b), (a &&& b), (a ||| b), (a ^^^ b), 0, 1, c, (a >>> (b &&& 63))]).getD (u64of code % 11) default)).toInt)) (y_assign rfl) rfl ?_
        refine wpL_nil ?_
        refine thenS_n ?_
        refine wpS_seq ?_
        refine wpS_region ?_
        refine s_y (v := .bool true) (y_call (args := #[]) (v := .bool true) Try.call82 ev0 (fun w hs => awake11_c w)) rfl ?_
        refine s_y (v := .bool true) (y_move rfl) rfl ?_
        refine s_gy (y_loadN (vs := [.int .i64 1, .slice none 0 0, .slice none 0 0, .slice (some ⟨b_1, 0, none⟩) 2 2]) rfl Try.isAgg84 Try.sizeOf84 (ownN (.t .h) rfl)) rfl rfl rfl rfl rfl rfl ?_
        refine s_gy (y_move rfl) rfl rfl rfl rfl rfl rfl ?_
        refine s_gy (y_move rfl) rfl rfl rfl rfl rfl rfl ?_
        refine s_gy (y_call (args := #[.agg #[.int .i64 1, .slice none 0 0, .slice none 0 0, .slice (some ⟨b_1, 0, none⟩) 2 2], .int .i64 (b.toInt), .int .i64 (a.toInt)]) (v := .int .i64 (((doneC (chkB 1 ([]) ([]) ([(Opc.mk 1 2 0 0 0 c), (Opc.mk (((1 + ((u64of code) % 11)) : Nat) : Int) 0 0 1 2 nn)])) ([(Opc.mk 1 2 0 0 0 c), (Opc.mk (((1 + ((u64of code) % 11)) : Nat) : Int) 0 0 1 2 nn)]) a b)).toInt)) Try.call89 (ev3 rfl rfl rfl) (fun w hs => finish_c 1 none none (some ⟨b_1, 0, none⟩) 0 0 0 0 2 2 ([]) ([]) ([(Opc.mk 1 2 0 0 0 c), (Opc.mk (((1 + ((u64of code) % 11)) : Nat) : Int) 0 0 1 2 nn)]) b a w (by first | rfl | (simp only [List.length_set]; done) | omega) (Rds.nil _ _) (by omega) (by first | rfl | (simp only [List.length_set]; done) | omega) (Rds.nil _ _) (by omega) (by first | rfl | (simp only [List.length_set]; done) | omega) (celR (.t (.t .h)) w hs) (by omega))) rfl rfl rfl rfl rfl rfl ?_
        refine s_gy (y_move rfl) rfl rfl rfl rfl rfl rfl ?_
        refine s_gy (y_eql (a := ((doneC (chkB 1 ([]) ([]) ([(Opc.mk 1 2 0 0 0 c), (Opc.mk (((1 + ((u64of code) % 11)) : Nat) : Int) 0 0 1 2 nn)])) ([(Opc.mk 1 2 0 0 0 c), (Opc.mk (((1 + ((u64of code) % 11)) : Nat) : Int) 0 0 1 2 nn)]) a b)).toInt) (b := ((([nn, (a + b), (a - b), (a * b), (a &&& b), (a ||| b), (a ^^^ b), 0, 1, c, (a >>> (b &&& 63))]).getD (u64of code % 11) default)).toInt) (c := decide ((doneC (chkB 1 ([]) ([]) ([(Opc.mk 1 2 0 0 0 c), (Opc.mk (((1 + ((u64of code) % 11)) : Nat) : Int) 0 0 1 2 nn)])) ([(Opc.mk 1 2 0 0 0 c), (Opc.mk (((1 + ((u64of code) % 11)) : Nat) : Int) 0 0 1 2 nn)]) a b) = (([nn, (a + b), (a - b), (a * b), (a &&& b), (a ||| b), (a ^^^ b), 0, 1, c, (a >>> (b &&& 63))]).getD (u64of code % 11) default))) rfl rfl (i_eql _ _)) rfl rfl rfl rfl rfl rfl ?_
        refine s_y (v := .bool (decide ((doneC (chkB 1 ([]) ([]) ([(Opc.mk 1 2 0 0 0 c), (Opc.mk (((1 + ((u64of code) % 11)) : Nat) : Int) 0 0 1 2 nn)])) ([(Opc.mk 1 2 0 0 0 c), (Opc.mk (((1 + ((u64of code) % 11)) : Nat) : Int) 0 0 1 2 nn)]) a b) = (([nn, (a + b), (a - b), (a * b), (a &&& b), (a ||| b), (a ^^^ b), 0, 1, c, (a >>> (b &&& 63))]).getD (u64of code % 11) default)))) (y_pickT (v := .bool (decide ((doneC (chkB 1 ([]) ([]) ([(Opc.mk 1 2 0 0 0 c), (Opc.mk (((1 + ((u64of code) % 11)) : Nat) : Int) 0 0 1 2 nn)])) ([(Opc.mk 1 2 0 0 0 c), (Opc.mk (((1 + ((u64of code) % 11)) : Nat) : Int) 0 0 1 2 nn)]) a b) = (([nn, (a + b), (a - b), (a * b), (a &&& b), (a ||| b), (a ^^^ b), 0, 1, c, (a >>> (b &&& 63))]).getD (u64of code % 11) default)))) rfl rfl rfl) rfl ?_
        refine s_y (v := .bool (decide ((doneC (chkB 1 ([]) ([]) ([(Opc.mk 1 2 0 0 0 c), (Opc.mk (((1 + ((u64of code) % 11)) : Nat) : Int) 0 0 1 2 nn)])) ([(Opc.mk 1 2 0 0 0 c), (Opc.mk (((1 + ((u64of code) % 11)) : Nat) : Int) 0 0 1 2 nn)]) a b) = (([nn, (a + b), (a - b), (a * b), (a &&& b), (a ||| b), (a ^^^ b), 0, 1, c, (a >>> (b &&& 63))]).getD (u64of code % 11) default)))) (y_assign rfl) rfl ?_
        refine wpL_nil ?_
        refine thenS_n ?_
        refine wpS_ret ?_
        refine fin1 (v := .bool (decide ((doneC (chkB 1 ([]) ([]) ([(Opc.mk 1 2 0 0 0 c), (Opc.mk (((1 + ((u64of code) % 11)) : Nat) : Int) 0 0 1 2 nn)])) ([(Opc.mk 1 2 0 0 0 c), (Opc.mk (((1 + ((u64of code) % 11)) : Nat) : Int) 0 0 1 2 nn)]) a b) = (([nn, (a + b), (a - b), (a * b), (a &&& b), (a ||| b), (a ^^^ b), 0, 1, c, (a >>> (b &&& 63))]).getD (u64of code % 11) default)))) (.inr rfl) (.nil) Try.results22 rfl ?_
        exact fun w' hs => ⟨congrArg (fun b => Ending.returned (Value.bool b)) (show (decide ((doneC (chkB 1 ([]) ([]) ([(Opc.mk 1 2 0 0 0 c), (Opc.mk (((1 + ((u64of code) % 11)) : Nat) : Int) 0 0 1 2 nn)])) ([(Opc.mk 1 2 0 0 0 c), (Opc.mk (((1 + ((u64of code) % 11)) : Nat) : Int) 0 0 1 2 nn)]) a b) = (([nn, (a + b), (a - b), (a * b), (a &&& b), (a ||| b), (a ^^^ b), 0, 1, c, (a >>> (b &&& 63))]).getD (u64of code % 11) default))) = true from (decide_eq_true (ops_fin (by omega) _ _ _ _ _ _ _ (by first | (rw [decide_eq_true (by assumption)]; rfl) | (rw [decide_eq_false (by assumption)]; rfl)) (by first | (rw [decide_eq_true (by assumption)]; rfl) | (rw [decide_eq_false (by assumption)]; rfl)) (by first | rw [if_neg (by assumption)] | rw [if_pos (Decidable.not_not.1 (by assumption))])))), hs⟩
    · -- decide (a = b) false
      have p11 := of_decide_eq_false b11
      refine wpS_skip ?_
      refine thenS_n ?_
      refine wpS_seq ?_
      refine wpS_seq ?_
      refine wpS_region ?_
      refine s_y (v := .int .i64 (a.toInt)) (y_move rfl) rfl ?_
      refine s_y (v := .bool (decide (a ≠ 0))) (y_neq (a := a.toInt) (b := 0) (c := decide (a ≠ 0)) rfl rfl (i_neqL _ 0 (by decide))) rfl ?_
      refine wpL_nil ?_
      refine thenS_n ?_
      refine wpS_cond (t := decide (a ≠ 0)) rfl (fun b15 => ?_) (fun b15 => ?_)
      · -- decide (a ≠ 0) true
        have p15 := of_decide_eq_true b15
        refine wpS_region ?_
        refine s_y (v := .int .i64 (b.toInt)) (y_move rfl) rfl ?_
        refine s_y (v := .int .i64 (b.toInt)) (y_assign rfl) rfl ?_
        refine wpL_nil ?_
        refine thenS_n ?_
        refine wpS_seq ?_
        refine wpS_region ?_
        refine s_y (v := .int .i64 (nn.toInt)) (y_move rfl) rfl ?_
        refine s_y (v := .int .i64 (a.toInt)) (y_move rfl) rfl ?_
        refine s_y (v := .int .i64 (b.toInt)) (y_move rfl) rfl ?_
        refine s_y (v := .int .i64 (((a + b)).toInt)) (y_add (a := a.toInt) (b := b.toInt) (c := ((a + b)).toInt) rfl rfl (i_add _ _)) rfl ?_
        refine s_y (v := .int .i64 (a.toInt)) (y_move rfl) rfl ?_
        refine s_y (v := .int .i64 (b.toInt)) (y_move rfl) rfl ?_
        refine s_y (v := .int .i64 (((a - b)).toInt)) (y_sub (a := a.toInt) (b := b.toInt) (c := ((a - b)).toInt) rfl rfl (i_sub _ _)) rfl ?_
        refine s_y (v := .int .i64 (a.toInt)) (y_move rfl) rfl ?_
        refine s_y (v := .int .i64 (b.toInt)) (y_move rfl) rfl ?_
        refine s_y (v := .int .i64 (((a * b)).toInt)) (y_mul (a := a.toInt) (b := b.toInt) (c := ((a * b)).toInt) rfl rfl (i_mul _ _)) rfl ?_
        refine s_y (v := .int .i64 (a.toInt)) (y_move rfl) rfl ?_
        refine s_y (v := .int .i64 (b.toInt)) (y_move rfl) rfl ?_
        refine s_y (v := .int .i64 (((a &&& b)).toInt)) (y_and (a := a.toInt) (b := b.toInt) (c := ((a &&& b)).toInt) rfl rfl (i_and _ _)) rfl ?_
        refine s_y (v := .int .i64 (a.toInt)) (y_move rfl) rfl ?_
        refine s_y (v := .int .i64 (b.toInt)) (y_move rfl) rfl ?_
        refine s_y (v := .int .i64 (((a ||| b)).toInt)) (y_or (a := a.toInt) (b := b.toInt) (c := ((a ||| b)).toInt) rfl rfl (i_or _ _)) rfl ?_
        refine s_y (v := .int .i64 (a.toInt)) (y_move rfl) rfl ?_
        refine s_y (v := .int .i64 (b.toInt)) (y_move rfl) rfl ?_
        refine s_y (v := .int .i64 (((a ^^^ b)).toInt)) (y_xor (a := a.toInt) (b := b.toInt) (c := ((a ^^^ b)).toInt) rfl rfl (i_xor _ _)) rfl ?_
        refine s_y (v := .int .i64 0) (y_move rfl) rfl ?_
        refine s_y (v := .int .i64 0) (y_move rfl) rfl ?_
        refine s_y (v := .int .i64 (b.toInt)) (y_move rfl) rfl ?_
        refine s_y (v := .int .i64 (a.toInt)) (y_move rfl) rfl ?_
        refine s_y (v := .int .i64 (b.toInt)) (y_move rfl) rfl ?_
        refine s_y (v := .int .i64 (((b &&& 63)).toInt)) (y_and (a := b.toInt) (b := 63) (c := ((b &&& 63)).toInt) rfl rfl (i_and b 63)) rfl ?_
        refine s_y (v := .int .u64 (((b &&& 63).toUInt64).toNat)) (y_convI (a := ((b &&& 63)).toInt) (c := ((b &&& 63).toUInt64).toNat) rfl Try.underlying2 Try.underlying46 (iu_conv _)) rfl ?_
        refine s_y (v := .int .i64 (((a >>> (b &&& 63))).toInt)) (y_shr (a := a.toInt) (b := ((b &&& 63).toUInt64).toNat) (c := ((a >>> (b &&& 63))).toInt) rfl rfl (by omega) (i_sar a b)) rfl ?_
        refine s_e rfl ?_
        refine e_bsliceL (e := 2) (m := [(0, .int .i64 (nn.toInt)), (1, .int .i64 (((a + b)).toInt)), (2, .int .i64 (((a - b)).toInt)), (3, .int .i64 (((a * b)).toInt)), (4, .int .i64 (((a &&& b)).toInt)), (5, .int .i64 (((a ||| b)).toInt)), (6, .int .i64 (((a ^^^ b)).toInt)), (7, .int .i64 0), (8, .int .i64 0), (9, .int .i64 (b.toInt)), (10, .int .i64 (((a >>> (b &&& 63))).toInt))]) (l := [.int .i64 (nn.toInt), .int .i64 (((a + b)).toInt), .int .i64 (((a - b)).toInt), .int .i64 (((a * b)).toInt), .int .i64 (((a &&& b)).toInt), .int .i64 (((a ||| b)).toInt), .int .i64 (((a ^^^ b)).toInt), .int .i64 0, .int .i64 0, .int .i64 (b.toInt), .int .i64 (((a >>> (b &&& 63))).toInt)]) (evc rfl (evc rfl (evc rfl (evc rfl (evc rfl (evc rfl (evc rfl (evc rfl (evc rfl (evc rfl (evc rfl evn))))))))))) (fun w => by kernel_rfl) ?_
        intro b_16
        refine s_y (v := .int .i64 ((((1 + ((u64of code) % 11)) : Nat) : Int))) (y_move rfl) rfl ?_
        refine s_y (v := .int .i64 ((((u64of code % 11) : Nat) : Int))) (y_sub (a := (((1 + ((u64of code) % 11)) : Nat) : Int)) (b := 1) (c := (((u64of code % 11) : Nat) : Int)) rfl rfl (wI (by omega) (by omega) (by omega))) rfl ?_
        refine s_y (v := .pointer (some ⟨aB (some ⟨b_16, 0, none⟩), aO (some ⟨b_16, 0, none⟩) + (u64of code % 11) * 1, none⟩)) (y_idx (o := (u64of code % 11) * 1) rfl rfl Try.underlying98 Try.sizeOf2 (fun w hs => (show Rds w _ ([nn, (a + b), (a - b), (a * b), (a &&& b), (a ||| b), (a ^^^ b), 0, 0, b, (a >>> (b &&& 63))].flatMap i64V) from celR .h w hs)) (fl_len i64V_len _) (by decide) (by omega) (by omega) (by omega)) rfl ?_
        refine s_y (v := .int .i64 (((([nn, (a + b), (a - b), (a * b), (a &&& b), (a ||| b), (a ^^^ b), 0, 0, b, (a >>> (b &&& 63))]).getD (u64of code % 11) default)).toInt)) (y_load1 (v := .int .i64 (((([nn, (a + b), (a - b), (a * b), (a &&& b), (a ||| b), (a ^^^ b), 0, 0, b, (a >>> (b &&& 63))]).getD (u64of code % 11) default)).toInt)) rfl Try.isAgg2 (rd1 (k := (u64of code % 11) * 1) (fun w hs => (show Rds w _ ([nn, (a + b), (a - b), (a * b), (a &&& b), (a ||| b), (a ^^^ b), 0, 0, b, (a >>> (b &&& 63))].flatMap i64V) from celR .h w hs)) (fl_get0 i64V_len ([nn, (a + b), (a - b), (a * b), (a &&& b), (a ||| b), (a ^^^ b), 0, 0, b, (a >>> (b &&& 63))]) (u64of code % 11) (by show _ < 11; omega) rfl))) rfl ?_
        refine s_y (v := .int .i64 (((([nn, (a + b), (a - b), (a * b), (a &&& b), (a ||| b), (a ^^^ b), 0, 0, b, (a >>> (b &&& 63))]).getD (u64of code % 11) default)).toInt)) (y_assign rfl) rfl ?_
        refine wpL_nil ?_
        refine thenS_n ?_
        refine wpS_seq ?_
        refine wpS_region ?_
        refine s_y (v := .bool true) (y_call (args := #[]) (v := .bool true) Try.call82 ev0 (fun w hs => awake11_c w)) rfl ?_
        refine s_y (v := .bool true) (y_move rfl) rfl ?_
        refine s_gy (y_loadN (vs := [.int .i64 1, .slice none 0 0, .slice none 0 0, .slice (some ⟨b_1, 0, none⟩) 2 2]) rfl Try.isAgg84 Try.sizeOf84 (ownN (.t .h) rfl)) rfl rfl rfl rfl rfl rfl ?_
        refine s_gy (y_move rfl) rfl rfl rfl rfl rfl rfl ?_
        refine s_gy (y_move rfl) rfl rfl rfl rfl rfl rfl ?_
        refine s_gy (y_call (args := #[.agg #[.int .i64 1, .slice none 0 0, .slice none 0 0, .slice (some ⟨b_1, 0, none⟩) 2 2], .int .i64 (b.toInt), .int .i64 (a.toInt)]) (v := .int .i64 (((doneC (chkB 1 ([]) ([]) ([(Opc.mk 1 2 0 0 0 c), (Opc.mk (((1 + ((u64of code) % 11)) : Nat) : Int) 0 0 1 2 nn)])) ([(Opc.mk 1 2 0 0 0 c), (Opc.mk (((1 + ((u64of code) % 11)) : Nat) : Int) 0 0 1 2 nn)]) a b)).toInt)) Try.call89 (ev3 rfl rfl rfl) (fun w hs => finish_c 1 none none (some ⟨b_1, 0, none⟩) 0 0 0 0 2 2 ([]) ([]) ([(Opc.mk 1 2 0 0 0 c), (Opc.mk (((1 + ((u64of code) % 11)) : Nat) : Int) 0 0 1 2 nn)]) b a w (by first | rfl | (simp only [List.length_set]; done) | omega) (Rds.nil _ _) (by omega) (by first | rfl | (simp only [List.length_set]; done) | omega) (Rds.nil _ _) (by omega) (by first | rfl | (simp only [List.length_set]; done) | omega) (celR (.t (.t .h)) w hs) (by omega))) rfl rfl rfl rfl rfl rfl ?_
        refine s_gy (y_move rfl) rfl rfl rfl rfl rfl rfl ?_
        refine s_gy (y_eql (a := ((doneC (chkB 1 ([]) ([]) ([(Opc.mk 1 2 0 0 0 c), (Opc.mk (((1 + ((u64of code) % 11)) : Nat) : Int) 0 0 1 2 nn)])) ([(Opc.mk 1 2 0 0 0 c), (Opc.mk (((1 + ((u64of code) % 11)) : Nat) : Int) 0 0 1 2 nn)]) a b)).toInt) (b := ((([nn, (a + b), (a - b), (a * b), (a &&& b), (a ||| b), (a ^^^ b), 0, 0, b, (a >>> (b &&& 63))]).getD (u64of code % 11) default)).toInt) (c := decide ((doneC (chkB 1 ([]) ([]) ([(Opc.mk 1 2 0 0 0 c), (Opc.mk (((1 + ((u64of code) % 11)) : Nat) : Int) 0 0 1 2 nn)])) ([(Opc.mk 1 2 0 0 0 c), (Opc.mk (((1 + ((u64of code) % 11)) : Nat) : Int) 0 0 1 2 nn)]) a b) = (([nn, (a + b), (a - b), (a * b), (a &&& b), (a ||| b), (a ^^^ b), 0, 0, b, (a >>> (b &&& 63))]).getD (u64of code % 11) default))) rfl rfl (i_eql _ _)) rfl rfl rfl rfl rfl rfl ?_
        refine s_y (v := .bool (decide ((doneC (chkB 1 ([]) ([]) ([(Opc.mk 1 2 0 0 0 c), (Opc.mk (((1 + ((u64of code) % 11)) : Nat) : Int) 0 0 1 2 nn)])) ([(Opc.mk 1 2 0 0 0 c), (Opc.mk (((1 + ((u64of code) % 11)) : Nat) : Int) 0 0 1 2 nn)]) a b) = (([nn, (a + b), (a - b), (a * b), (a &&& b), (a ||| b), (a ^^^ b), 0, 0, b, (a >>> (b &&& 63))]).getD (u64of code % 11) default)))) (y_pickT (v := .bool (decide ((doneC (chkB 1 ([]) ([]) ([(Opc.mk 1 2 0 0 0 c), (Opc.mk (((1 + ((u64of code) % 11)) : Nat) : Int) 0 0 1 2 nn)])) ([(Opc.mk 1 2 0 0 0 c), (Opc.mk (((1 + ((u64of code) % 11)) : Nat) : Int) 0 0 1 2 nn)]) a b) = (([nn, (a + b), (a - b), (a * b), (a &&& b), (a ||| b), (a ^^^ b), 0, 0, b, (a >>> (b &&& 63))]).getD (u64of code % 11) default)))) rfl rfl rfl) rfl ?_
        refine s_y (v := .bool (decide ((doneC (chkB 1 ([]) ([]) ([(Opc.mk 1 2 0 0 0 c), (Opc.mk (((1 + ((u64of code) % 11)) : Nat) : Int) 0 0 1 2 nn)])) ([(Opc.mk 1 2 0 0 0 c), (Opc.mk (((1 + ((u64of code) % 11)) : Nat) : Int) 0 0 1 2 nn)]) a b) = (([nn, (a + b), (a - b), (a * b), (a &&& b), (a ||| b), (a ^^^ b), 0, 0, b, (a >>> (b &&& 63))]).getD (u64of code % 11) default)))) (y_assign rfl) rfl ?_
        refine wpL_nil ?_
        refine thenS_n ?_
        refine wpS_ret ?_
        refine fin1 (v := .bool (decide ((doneC (chkB 1 ([]) ([]) ([(Opc.mk 1 2 0 0 0 c), (Opc.mk (((1 + ((u64of code) % 11)) : Nat) : Int) 0 0 1 2 nn)])) ([(Opc.mk 1 2 0 0 0 c), (Opc.mk (((1 + ((u64of code) % 11)) : Nat) : Int) 0 0 1 2 nn)]) a b) = (([nn, (a + b), (a - b), (a * b), (a &&& b), (a ||| b), (a ^^^ b), 0, 0, b, (a >>> (b &&& 63))]).getD (u64of code % 11) default)))) (.inr rfl) (.nil) Try.results22 rfl ?_
        exact fun w' hs => ⟨congrArg (fun b => Ending.returned (Value.bool b)) (show (decide ((doneC (chkB 1 ([]) ([]) ([(Opc.mk 1 2 0 0 0 c), (Opc.mk (((1 + ((u64of code) % 11)) : Nat) : Int) 0 0 1 2 nn)])) ([(Opc.mk 1 2 0 0 0 c), (Opc.mk (((1 + ((u64of code) % 11)) : Nat) : Int) 0 0 1 2 nn)]) a b) = (([nn, (a + b), (a - b), (a * b), (a &&& b), (a ||| b), (a ^^^ b), 0, 0, b, (a >>> (b &&& 63))]).getD (u64of code % 11) default))) = true from (decide_eq_true (ops_fin (by omega) _ _ _ _ _ _ _ (by first | (rw [decide_eq_true (by assumption)]; rfl) | (rw [decide_eq_false (by assumption)]; rfl)) (by first | (rw [decide_eq_true (by assumption)]; rfl) | (rw [decide_eq_false (by assumption)]; rfl)) (by first | rw [if_neg (by assumption)] | rw [if_pos (Decidable.not_not.1 (by assumption))])))), hs⟩
      · -- decide (a ≠ 0) false
        have p15 := of_decide_eq_false b15
        refine wpS_skip ?_
        refine thenS_n ?_
        refine wpS_seq ?_
        refine wpS_region ?_
        refine s_y (v := .int .i64 (nn.toInt)) (y_move rfl) rfl ?_
        refine s_y (v := .int .i64 (a.toInt)) (y_move rfl) rfl ?_
        refine s_y (v := .int .i64 (b.toInt)) (y_move rfl) rfl ?_
        refine s_y (v := .int .i64 (((a + b)).toInt)) (y_add (a := a.toInt) (b := b.toInt) (c := ((a + b)).toInt) rfl rfl (i_add _ _)) rfl ?_
        refine s_y (v := .int .i64 (a.toInt)) (y_move rfl) rfl ?_
        refine s_y (v := .int .i64 (b.toInt)) (y_move rfl) rfl ?_
        refine s_y (v := .int .i64 (((a - b)).toInt)) (y_sub (a := a.toInt) (b := b.toInt) (c := ((a - b)).toInt) rfl rfl (i_sub _ _)) rfl ?_
        refine s_y (v := .int .i64 (a.toInt)) (y_move rfl) rfl ?_
        refine s_y (v := .int .i64 (b.toInt)) (y_move rfl) rfl ?_
        refine s_y (v := .int .i64 (((a * b)).toInt)) (y_mul (a := a.toInt) (b := b.toInt) (c := ((a * b)).toInt) rfl rfl (i_mul _ _)) rfl ?_
        refine s_y (v := .int .i64 (a.toInt)) (y_move rfl) rfl ?_
        refine s_y (v := .int .i64 (b.toInt)) (y_move rfl) rfl ?_
        refine s_y (v := .int .i64 (((a &&& b)).toInt)) (y_and (a := a.toInt) (b := b.toInt) (c := ((a &&& b)).toInt) rfl rfl (i_and _ _)) rfl ?_
        refine s_y (v := .int .i64 (a.toInt)) (y_move rfl) rfl ?_
        refine s_y (v := .int .i64 (b.toInt)) (y_move rfl) rfl ?_
        refine s_y (v := .int .i64 (((a ||| b)).toInt)) (y_or (a := a.toInt) (b := b.toInt) (c := ((a ||| b)).toInt) rfl rfl (i_or _ _)) rfl ?_
        refine s_y (v := .int .i64 (a.toInt)) (y_move rfl) rfl ?_
        refine s_y (v := .int .i64 (b.toInt)) (y_move rfl) rfl ?_
        refine s_y (v := .int .i64 (((a ^^^ b)).toInt)) (y_xor (a := a.toInt) (b := b.toInt) (c := ((a ^^^ b)).toInt) rfl rfl (i_xor _ _)) rfl ?_
        refine s_y (v := .int .i64 0) (y_move rfl) rfl ?_
        refine s_y (v := .int .i64 0) (y_move rfl) rfl ?_
        refine s_y (v := .int .i64 (c.toInt)) (y_move rfl) rfl ?_
        refine s_y (v := .int .i64 (a.toInt)) (y_move rfl) rfl ?_
        refine s_y (v := .int .i64 (b.toInt)) (y_move rfl) rfl ?_
        refine s_y (v := .int .i64 (((b &&& 63)).toInt)) (y_and (a := b.toInt) (b := 63) (c := ((b &&& 63)).toInt) rfl rfl (i_and b 63)) rfl ?_
        refine s_y (v := .int .u64 (((b &&& 63).toUInt64).toNat)) (y_convI (a := ((b &&& 63)).toInt) (c := ((b &&& 63).toUInt64).toNat) rfl Try.underlying2 Try.underlying46 (iu_conv _)) rfl ?_
        refine s_y (v := .int .i64 (((a >>> (b &&& 63))).toInt)) (y_shr (a := a.toInt) (b := ((b &&& 63).toUInt64).toNat) (c := ((a >>> (b &&& 63))).toInt) rfl rfl (by omega) (i_sar a b)) rfl ?_
        refine s_e rfl ?_
        refine e_bsliceL (e := 2) (m := [(0, .int .i64 (nn.toInt)), (1, .int .i64 (((a + b)).toInt)), (2, .int .i64 (((a - b)).toInt)), (3, .int .i64 (((a * b)).toInt)), (4, .int .i64 (((a &&& b)).toInt)), (5, .int .i64 (((a ||| b)).toInt)), (6, .int .i64 (((a ^^^ b)).toInt)), (7, .int .i64 0), (8, .int .i64 0), (9, .int .i64 (c.toInt)), (10, .int .i64 (((a >>> (b &&& 63))).toInt))]) (l := [.int .i64 (nn.toInt), .int .i64 (((a + b)).toInt), .int .i64 (((a - b)).toInt), .int .i64 (((a * b)).toInt), .int .i64 (((a &&& b)).toInt), .int .i64 (((a ||| b)).toInt), .int .i64 (((a ^^^ b)).toInt), .int .i64 0, .int .i64 0, .int .i64 (c.toInt), .int .i64 (((a >>> (b &&& 63))).toInt)]) (evc rfl (evc rfl (evc rfl (evc rfl (evc rfl (evc rfl (evc rfl (evc rfl (evc rfl (evc rfl (evc rfl evn))))))))))) (fun w => by kernel_rfl) ?_
        intro b_17
        refine s_y (v := .int .i64 ((((1 + ((u64of code) % 11)) : Nat) : Int))) (y_move rfl) rfl ?_
        refine s_y (v := .int .i64 ((((u64of code % 11) : Nat) : Int))) (y_sub (a := (((1 + ((u64of code) % 11)) : Nat) : Int)) (b := 1) (c := (((u64of code % 11) : Nat) : Int)) rfl rfl (wI (by omega) (by omega) (by omega))) rfl ?_
        refine s_y (v := .pointer (some ⟨aB (some ⟨b_17, 0, none⟩), aO (some ⟨b_17, 0, none⟩) + (u64of code % 11) * 1, none⟩)) (y_idx (o := (u64of code % 11) * 1) rfl rfl Try.underlying98 Try.sizeOf2 (fun w hs => (show Rds w _ ([nn, (a + b), (a - b), (a * b), (a &&& b), (a ||| b), (a ^^^ b), 0, 0, c, (a >>> (b &&& 63))].flatMap i64V) from celR .h w hs)) (fl_len i64V_len _) (by decide) (by omega) (by omega) (by omega)) rfl ?_
        refine s_y (v := .int .i64 (((([nn, (a + b), (a - b), (a * b), (a &&& b), (a ||| b), (a ^^^ b), 0, 0, c, (a >>> (b &&& 63))]).getD (u64of code % 11) default)).toInt)) (y_load1 (v := .int .i64 (((([nn, (a + b), (a - b), (a * b), (a &&& b), (a ||| b), (a ^^^ b), 0, 0, c, (a >>> (b &&& 63))]).getD (u64of code % 11) default)).toInt)) rfl Try.isAgg2 (rd1 (k := (u64of code % 11) * 1) (fun w hs => (show Rds w _ ([nn, (a + b), (a - b), (a * b), (a &&& b), (a ||| b), (a ^^^ b), 0, 0, c, (a >>> (b &&& 63))].flatMap i64V) from celR .h w hs)) (fl_get0 i64V_len ([nn, (a + b), (a - b), (a * b), (a &&& b), (a ||| b), (a ^^^ b), 0, 0, c, (a >>> (b &&& 63))]) (u64of code % 11) (by show _ < 11; omega) rfl))) rfl ?_
        refine s_y (v := .int .i64 (((([nn, (a + b), (a - b), (a * b), (a &&& b), (a ||| b), (a ^^^ b), 0, 0, c, (a >>> (b &&& 63))]).getD (u64of code % 11) default)).toInt)) (y_assign rfl) rfl ?_
        refine wpL_nil ?_
        refine thenS_n ?_
        refine wpS_seq ?_
        refine wpS_region ?_
        refine s_y (v := .bool true) (y_call (args := #[]) (v := .bool true) Try.call82 ev0 (fun w hs => awake11_c w)) rfl ?_
        refine s_y (v := .bool true) (y_move rfl) rfl ?_
        refine s_gy (y_loadN (vs := [.int .i64 1, .slice none 0 0, .slice none 0 0, .slice (some ⟨b_1, 0, none⟩) 2 2]) rfl Try.isAgg84 Try.sizeOf84 (ownN (.t .h) rfl)) rfl rfl rfl rfl rfl rfl ?_
        refine s_gy (y_move rfl) rfl rfl rfl rfl rfl rfl ?_
        refine s_gy (y_move rfl) rfl rfl rfl rfl rfl rfl ?_
        refine s_gy (y_call (args := #[.agg #[.int .i64 1, .slice none 0 0, .slice none 0 0, .slice (some ⟨b_1, 0, none⟩) 2 2], .int .i64 (b.toInt), .int .i64 (a.toInt)]) (v := .int .i64 (((doneC (chkB 1 ([]) ([]) ([(Opc.mk 1 2 0 0 0 c), (Opc.mk (((1 + ((u64of code) % 11)) : Nat) : Int) 0 0 1 2 nn)])) ([(Opc.mk 1 2 0 0 0 c), (Opc.mk (((1 + ((u64of code) % 11)) : Nat) : Int) 0 0 1 2 nn)]) a b)).toInt)) Try.call89 (ev3 rfl rfl rfl) (fun w hs => finish_c 1 none none (some ⟨b_1, 0, none⟩) 0 0 0 0 2 2 ([]) ([]) ([(Opc.mk 1 2 0 0 0 c), (Opc.mk (((1 + ((u64of code) % 11)) : Nat) : Int) 0 0 1 2 nn)]) b a w (by first | rfl | (simp only [List.length_set]; done) | omega) (Rds.nil _ _) (by omega) (by first | rfl | (simp only [List.length_set]; done) | omega) (Rds.nil _ _) (by omega) (by first | rfl | (simp only [List.length_set]; done) | omega) (celR (.t (.t .h)) w hs) (by omega))) rfl rfl rfl rfl rfl rfl ?_
        refine s_gy (y_move rfl) rfl rfl rfl rfl rfl rfl ?_
        refine s_gy (y_eql (a := ((doneC (chkB 1 ([]) ([]) ([(Opc.mk 1 2 0 0 0 c), (Opc.mk (((1 + ((u64of code) % 11)) : Nat) : Int) 0 0 1 2 nn)])) ([(Opc.mk 1 2 0 0 0 c), (Opc.mk (((1 + ((u64of code) % 11)) : Nat) : Int) 0 0 1 2 nn)]) a b)).toInt) (b := ((([nn, (a + b), (a - b), (a * b), (a &&& b), (a ||| b), (a ^^^ b), 0, 0, c, (a >>> (b &&& 63))]).getD (u64of code % 11) default)).toInt) (c := decide ((doneC (chkB 1 ([]) ([]) ([(Opc.mk 1 2 0 0 0 c), (Opc.mk (((1 + ((u64of code) % 11)) : Nat) : Int) 0 0 1 2 nn)])) ([(Opc.mk 1 2 0 0 0 c), (Opc.mk (((1 + ((u64of code) % 11)) : Nat) : Int) 0 0 1 2 nn)]) a b) = (([nn, (a + b), (a - b), (a * b), (a &&& b), (a ||| b), (a ^^^ b), 0, 0, c, (a >>> (b &&& 63))]).getD (u64of code % 11) default))) rfl rfl (i_eql _ _)) rfl rfl rfl rfl rfl rfl ?_
        refine s_y (v := .bool (decide ((doneC (chkB 1 ([]) ([]) ([(Opc.mk 1 2 0 0 0 c), (Opc.mk (((1 + ((u64of code) % 11)) : Nat) : Int) 0 0 1 2 nn)])) ([(Opc.mk 1 2 0 0 0 c), (Opc.mk (((1 + ((u64of code) % 11)) : Nat) : Int) 0 0 1 2 nn)]) a b) = (([nn, (a + b), (a - b), (a * b), (a &&& b), (a ||| b), (a ^^^ b), 0, 0, c, (a >>> (b &&& 63))]).getD (u64of code % 11) default)))) (y_pickT (v := .bool (decide ((doneC (chkB 1 ([]) ([]) ([(Opc.mk 1 2 0 0 0 c), (Opc.mk (((1 + ((u64of code) % 11)) : Nat) : Int) 0 0 1 2 nn)])) ([(Opc.mk 1 2 0 0 0 c), (Opc.mk (((1 + ((u64of code) % 11)) : Nat) : Int) 0 0 1 2 nn)]) a b) = (([nn, (a + b), (a - b), (a * b), (a &&& b), (a ||| b), (a ^^^ b), 0, 0, c, (a >>> (b &&& 63))]).getD (u64of code % 11) default)))) rfl rfl rfl) rfl ?_
        refine s_y (v := .bool (decide ((doneC (chkB 1 ([]) ([]) ([(Opc.mk 1 2 0 0 0 c), (Opc.mk (((1 + ((u64of code) % 11)) : Nat) : Int) 0 0 1 2 nn)])) ([(Opc.mk 1 2 0 0 0 c), (Opc.mk (((1 + ((u64of code) % 11)) : Nat) : Int) 0 0 1 2 nn)]) a b) = (([nn, (a + b), (a - b), (a * b), (a &&& b), (a ||| b), (a ^^^ b), 0, 0, c, (a >>> (b &&& 63))]).getD (u64of code % 11) default)))) (y_assign rfl) rfl ?_
        refine wpL_nil ?_
        refine thenS_n ?_
        refine wpS_ret ?_
        refine fin1 (v := .bool (decide ((doneC (chkB 1 ([]) ([]) ([(Opc.mk 1 2 0 0 0 c), (Opc.mk (((1 + ((u64of code) % 11)) : Nat) : Int) 0 0 1 2 nn)])) ([(Opc.mk 1 2 0 0 0 c), (Opc.mk (((1 + ((u64of code) % 11)) : Nat) : Int) 0 0 1 2 nn)]) a b) = (([nn, (a + b), (a - b), (a * b), (a &&& b), (a ||| b), (a ^^^ b), 0, 0, c, (a >>> (b &&& 63))]).getD (u64of code % 11) default)))) (.inr rfl) (.nil) Try.results22 rfl ?_
        exact fun w' hs => ⟨congrArg (fun b => Ending.returned (Value.bool b)) (show (decide ((doneC (chkB 1 ([]) ([]) ([(Opc.mk 1 2 0 0 0 c), (Opc.mk (((1 + ((u64of code) % 11)) : Nat) : Int) 0 0 1 2 nn)])) ([(Opc.mk 1 2 0 0 0 c), (Opc.mk (((1 + ((u64of code) % 11)) : Nat) : Int) 0 0 1 2 nn)]) a b) = (([nn, (a + b), (a - b), (a * b), (a &&& b), (a ||| b), (a ^^^ b), 0, 0, c, (a >>> (b &&& 63))]).getD (u64of code % 11) default))) = true from (decide_eq_true (ops_fin (by omega) _ _ _ _ _ _ _ (by first | (rw [decide_eq_true (by assumption)]; rfl) | (rw [decide_eq_false (by assumption)]; rfl)) (by first | (rw [decide_eq_true (by assumption)]; rfl) | (rw [decide_eq_false (by assumption)]; rfl)) (by first | rw [if_neg (by assumption)] | rw [if_pos (Decidable.not_not.1 (by assumption))])))), hs⟩

theorem bad_vm (part atz what : Int) (part1 : -9223372036854775808 ≤ part) (part2 : part < 9223372036854775808) (atz1 : -9223372036854775808 ≤ atz) (atz2 : atz < 9223372036854775808) (what1 : -9223372036854775808 ≤ what) (what2 : what < 9223372036854775808) (nn : Int64) (w : World) : Pure Try.prog 23 #[.int .i64 part, .int .i64 atz, .int .i64 what, .int .i64 (nn.toInt)] w (.bool true) := by
  refine calls_S (n := 97) (σ0 := (upd (upd (upd (upd fr0 0 (.int .i64 part)) 1 (.int .i64 atz)) 2 (.int .i64 what)) 3 (.int .i64 (nn.toInt)))) (D := []) (A := []) Try.func23 rfl Try.ntmps23 rfl (a4_fr _ _ _ _) (SH.start w) ?_
  refine wpS_seq ?_
  refine wpS_region ?_
  refine s_y (v := .bool false) (y_assign rfl) rfl ?_
  refine wpL_nil ?_
  refine thenS_n ?_
  refine wpS_seq ?_
  refine wpS_region ?_
  refine s_y (v := .agg #[.int .i64 2, .int .i64 1, .int .i64 2, .int .i64 3, .int .i64 4, .int .i64 0]) (y_buildL (m := [(0, .int .i64 2), (1, .int .i64 1), (2, .int .i64 2), (3, .int .i64 3), (4, .int .i64 4)]) (vs := #[.int .i64 2, .int .i64 1, .int .i64 2, .int .i64 3, .int .i64 4, .int .i64 0]) (evc rfl (evc rfl (evc rfl (evc rfl (evc rfl evn))))) (fun w => by kernel_rfl)) rfl ?_
  refine s_e rfl ?_
  refine e_alloc (l := [.int .i64 0, .int .i64 0, .int .i64 0, .int .i64 0, .int .i64 0, .int .i64 0]) Try.zeroValue86 rfl ?_
  intro b_1
  refine s_e0 ?_
  refine e_store (vs := [.int .i64 2, .int .i64 1, .int .i64 2, .int .i64 3, .int .i64 4, .int .i64 0]) (l' := [.int .i64 2, .int .i64 1, .int .i64 2, .int .i64 3, .int .i64 4, .int .i64 0]) rfl rfl rfl rfl Try.sizeOf86 .h (Nat.le_of_ble_eq_true rfl) rfl ?_
  refine wpL_nil ?_
  refine thenS_n ?_
  refine wpS_seq ?_
  refine wpS_region ?_
  refine s_y (v := .agg #[.int .i64 2, .int .i64 1, .int .i64 2, .int .i64 3, .int .i64 4, .int .i64 0]) (y_loadN (vs := [.int .i64 2, .int .i64 1, .int .i64 2, .int .i64 3, .int .i64 4, .int .i64 0]) rfl Try.isAgg86 Try.sizeOf86 (ownN .h rfl)) rfl ?_
  refine s_e rfl ?_
  refine e_alloc (l := [.int .i64 0, .int .i64 0, .int .i64 0, .int .i64 0, .int .i64 0, .int .i64 0]) Try.zeroValue86 rfl ?_
  intro b_2
  refine s_e0 ?_
  refine e_store (vs := [.int .i64 2, .int .i64 1, .int .i64 2, .int .i64 3, .int .i64 4, .int .i64 0]) (l' := [.int .i64 2, .int .i64 1, .int .i64 2, .int .i64 3, .int .i64 4, .int .i64 0]) rfl rfl rfl rfl Try.sizeOf86 .h (Nat.le_of_ble_eq_true rfl) rfl ?_
  refine wpL_nil ?_
  refine thenS_n ?_
  refine wpS_seq ?_
  refine wpS_region ?_
  refine s_y (v := .int .i64 part) (y_move rfl) rfl ?_
  refine s_y (v := .int .u64 ((((u64of part) : Nat) : Int))) (y_convI (a := part) (c := (((u64of part) : Nat) : Int)) rfl Try.underlying3 Try.underlying46 (u64of_wrap _)) rfl ?_
  refine s_y (v := .int .u64 (((((u64of part) % 3) : Nat) : Int))) (y_rem (a := (((u64of part) : Nat) : Int)) (b := 3) (c := ((((u64of part) % 3) : Nat) : Int)) rfl rfl (by omega) (n_rem _ 3 (by omega))) rfl ?_
  refine s_y (v := .int .i64 (((((u64of part) % 3) : Nat) : Int))) (y_convI (a := ((((u64of part) % 3) : Nat) : Int)) (c := ((((u64of part) % 3) : Nat) : Int)) rfl Try.underlying46 Try.underlying3 (wI rfl (by omega) (by omega))) rfl ?_
  refine s_y (v := .int .i64 (((((u64of part) % 3) : Nat) : Int))) (y_assign rfl) rfl ?_
  refine wpL_nil ?_
  refine thenS_n ?_
  refine wpS_cut (fun ds σ L => ∃ bo : Opc, (bo = badO (u64of what % 7)) ∧ ds = [] ∧ σ 0 = .int .i64 (((((u64of part) % 3) : Nat) : Int)) ∧ σ 1 = .int .i64 atz ∧ σ 3 = .int .i64 (nn.toInt) ∧ σ 9 = .pointer (some ⟨b_1, 0, none⟩) ∧ σ 10 = .pointer (some ⟨b_2, 0, none⟩) ∧ Ent L [cel b_2 86 [.int .i64 (bo.o0), .int .i64 (bo.o1), .int .i64 (bo.o2), .int .i64 (bo.o3), .int .i64 (bo.o4), .int .i64 (bo.o5.toInt)], cel b_1 86 [.int .i64 2, .int .i64 1, .int .i64 2, .int .i64 3, .int .i64 4, .int .i64 0]]) ?_ ?_
  · -- up to the cut
    refine wpS_seq ?_
    refine wpS_region ?_
    refine s_y (v := .int .i64 what) (y_move rfl) rfl ?_
    refine s_y (v := .int .u64 ((((u64of what) : Nat) : Int))) (y_convI (a := what) (c := (((u64of what) : Nat) : Int)) rfl Try.underlying3 Try.underlying46 (u64of_wrap _)) rfl ?_
    refine s_y (v := .int .u64 (((((u64of what) % 7) : Nat) : Int))) (y_rem (a := (((u64of what) : Nat) : Int)) (b := 7) (c := ((((u64of what) % 7) : Nat) : Int)) rfl rfl (by omega) (n_rem _ 7 (by omega))) rfl ?_
    refine wpL_nil ?_
    refine thenS_n ?_
    refine wpS_block ?_
    refine wpS_seq ?_
    refine wpS_region ?_
    refine s_y (v := .bool (decide ((((u64of what) % 7) : Nat) = 0))) (y_eql (a := ((((u64of what) % 7) : Nat) : Int)) (b := 0) (c := decide ((((u64of what) % 7) : Nat) = 0)) rfl rfl (decide_eq_decide.2 (by omega))) rfl ?_
    refine s_y (v := .bool (decide ((((u64of what) % 7) : Nat) = 0))) (y_assign rfl) rfl ?_
    refine wpL_nil ?_
    refine thenS_n ?_
    refine wpS_cond (t := decide ((((u64of what) % 7) : Nat) = 0)) rfl (fun b3 => ?_) (fun b3 => ?_)
    · -- decide ((((u64of what) % 7) : Nat) = 0) true
      have p3 := of_decide_eq_true b3
      refine wpS_region ?_
      refine s_y (v := .pointer (some ⟨b_2, 0, none⟩)) (y_fieldAddr (o' := 0) rfl Try.underlying86 rfl Try.sizeOf3 (by decide) rfl) rfl ?_
      refine s_e0 ?_
      refine e_store (vs := [.int .i64 13]) (l' := [.int .i64 13, .int .i64 1, .int .i64 2, .int .i64 3, .int .i64 4, .int .i64 0]) rfl rfl rfl rfl Try.sizeOf3 .h (Nat.le_of_ble_eq_true rfl) rfl ?_
      refine wpL_nil ?_
      refine blockS_n ?_
      refine thenS_n ?_
      exact ⟨(Opc.mk 13 1 2 3 4 0), (by unfold badO; first | rw [if_pos (by omega)] | rw [if_neg (by omega), if_pos (by omega)] | rw [if_neg (by omega), if_neg (by omega), if_pos (by omega)] | rw [if_neg (by omega), if_neg (by omega), if_neg (by omega), if_pos (by omega)] | rw [if_neg (by omega), if_neg (by omega), if_neg (by omega), if_neg (by omega), if_pos (by omega)] | rw [if_neg (by omega), if_neg (by omega), if_neg (by omega), if_neg (by omega), if_neg (by omega), if_pos (by omega)] | rw [if_neg (by omega), if_neg (by omega), if_neg (by omega), if_neg (by omega), if_neg (by omega), if_neg (by omega)]), rfl, rfl, rfl, rfl, rfl, rfl, .p .h (.p .h .nil)⟩
    · -- decide ((((u64of what) % 7) : Nat) = 0) false
      have p3 := of_decide_eq_false b3
      refine wpS_seq ?_
      refine wpS_region ?_
      refine s_y (v := .bool (decide ((((u64of what) % 7) : Nat) = 1))) (y_eql (a := ((((u64of what) % 7) : Nat) : Int)) (b := 1) (c := decide ((((u64of what) % 7) : Nat) = 1)) rfl rfl (decide_eq_decide.2 (by omega))) rfl ?_
      refine s_y (v := .bool (decide ((((u64of what) % 7) : Nat) = 1))) (y_assign rfl) rfl ?_
      refine wpL_nil ?_
      refine thenS_n ?_
      refine wpS_cond (t := decide ((((u64of what) % 7) : Nat) = 1)) rfl (fun b4 => ?_) (fun b4 => ?_)
      · -- decide ((((u64of what) % 7) : Nat) = 1) true
        have p4 := of_decide_eq_true b4
        refine wpS_region ?_
        refine s_y (v := .pointer (some ⟨b_2, 1, none⟩)) (y_fieldAddr (o' := 1) rfl Try.underlying86 rfl Try.sizeOf3 (by decide) rfl) rfl ?_
        refine s_e0 ?_
        refine e_store (vs := [.int .i64 8]) (l' := [.int .i64 2, .int .i64 8, .int .i64 2, .int .i64 3, .int .i64 4, .int .i64 0]) rfl rfl rfl rfl Try.sizeOf3 .h (Nat.le_of_ble_eq_true rfl) rfl ?_
        refine wpL_nil ?_
        refine blockS_n ?_
        refine thenS_n ?_
        exact ⟨(Opc.mk 2 8 2 3 4 0), (by unfold badO; first | rw [if_pos (by omega)] | rw [if_neg (by omega), if_pos (by omega)] | rw [if_neg (by omega), if_neg (by omega), if_pos (by omega)] | rw [if_neg (by omega), if_neg (by omega), if_neg (by omega), if_pos (by omega)] | rw [if_neg (by omega), if_neg (by omega), if_neg (by omega), if_neg (by omega), if_pos (by omega)] | rw [if_neg (by omega), if_neg (by omega), if_neg (by omega), if_neg (by omega), if_neg (by omega), if_pos (by omega)] | rw [if_neg (by omega), if_neg (by omega), if_neg (by omega), if_neg (by omega), if_neg (by omega), if_neg (by omega)]), rfl, rfl, rfl, rfl, rfl, rfl, .p .h (.p .h .nil)⟩
      · -- decide ((((u64of what) % 7) : Nat) = 1) false
        have p4 := of_decide_eq_false b4
        refine wpS_seq ?_
        refine wpS_region ?_
        refine s_y (v := .bool (decide ((((u64of what) % 7) : Nat) = 2))) (y_eql (a := ((((u64of what) % 7) : Nat) : Int)) (b := 2) (c := decide ((((u64of what) % 7) : Nat) = 2)) rfl rfl (decide_eq_decide.2 (by omega))) rfl ?_
        refine s_y (v := .bool (decide ((((u64of what) % 7) : Nat) = 2))) (y_assign rfl) rfl ?_
        refine wpL_nil ?_
        refine thenS_n ?_
        refine wpS_cond (t := decide ((((u64of what) % 7) : Nat) = 2)) rfl (fun b5 => ?_) (fun b5 => ?_)
        · -- decide ((((u64of what) % 7) : Nat) = 2) true
          have p5 := of_decide_eq_true b5
          refine wpS_region ?_
          refine s_y (v := .pointer (some ⟨b_2, 2, none⟩)) (y_fieldAddr (o' := 2) rfl Try.underlying86 rfl Try.sizeOf3 (by decide) rfl) rfl ?_
          refine s_e0 ?_
          refine e_store (vs := [.int .i64 (-1)]) (l' := [.int .i64 2, .int .i64 1, .int .i64 (-1), .int .i64 3, .int .i64 4, .int .i64 0]) rfl rfl rfl rfl Try.sizeOf3 .h (Nat.le_of_ble_eq_true rfl) rfl ?_
          refine wpL_nil ?_
          refine blockS_n ?_
          refine thenS_n ?_
          exact ⟨(Opc.mk 2 1 (-1) 3 4 0), (by unfold badO; first | rw [if_pos (by omega)] | rw [if_neg (by omega), if_pos (by omega)] | rw [if_neg (by omega), if_neg (by omega), if_pos (by omega)] | rw [if_neg (by omega), if_neg (by omega), if_neg (by omega), if_pos (by omega)] | rw [if_neg (by omega), if_neg (by omega), if_neg (by omega), if_neg (by omega), if_pos (by omega)] | rw [if_neg (by omega), if_neg (by omega), if_neg (by omega), if_neg (by omega), if_neg (by omega), if_pos (by omega)] | rw [if_neg (by omega), if_neg (by omega), if_neg (by omega), if_neg (by omega), if_neg (by omega), if_neg (by omega)]), rfl, rfl, rfl, rfl, rfl, rfl, .p .h (.p .h .nil)⟩
        · -- decide ((((u64of what) % 7) : Nat) = 2) false
          have p5 := of_decide_eq_false b5
          refine wpS_seq ?_
          refine wpS_region ?_
          refine s_y (v := .bool (decide ((((u64of what) % 7) : Nat) = 3))) (y_eql (a := ((((u64of what) % 7) : Nat) : Int)) (b := 3) (c := decide ((((u64of what) % 7) : Nat) = 3)) rfl rfl (decide_eq_decide.2 (by omega))) rfl ?_
          refine s_y (v := .bool (decide ((((u64of what) % 7) : Nat) = 3))) (y_assign rfl) rfl ?_
          refine wpL_nil ?_
          refine thenS_n ?_
          refine wpS_cond (t := decide ((((u64of what) % 7) : Nat) = 3)) rfl (fun b6 => ?_) (fun b6 => ?_)
          · -- decide ((((u64of what) % 7) : Nat) = 3) true
            have p6 := of_decide_eq_true b6
            refine wpS_region ?_
            refine s_y (v := .pointer (some ⟨b_2, 3, none⟩)) (y_fieldAddr (o' := 3) rfl Try.underlying86 rfl Try.sizeOf3 (by decide) rfl) rfl ?_
            refine s_e0 ?_
            refine e_store (vs := [.int .i64 8]) (l' := [.int .i64 2, .int .i64 1, .int .i64 2, .int .i64 8, .int .i64 4, .int .i64 0]) rfl rfl rfl rfl Try.sizeOf3 .h (Nat.le_of_ble_eq_true rfl) rfl ?_
            refine wpL_nil ?_
            refine blockS_n ?_
            refine thenS_n ?_
            exact ⟨(Opc.mk 2 1 2 8 4 0), (by unfold badO; first | rw [if_pos (by omega)] | rw [if_neg (by omega), if_pos (by omega)] | rw [if_neg (by omega), if_neg (by omega), if_pos (by omega)] | rw [if_neg (by omega), if_neg (by omega), if_neg (by omega), if_pos (by omega)] | rw [if_neg (by omega), if_neg (by omega), if_neg (by omega), if_neg (by omega), if_pos (by omega)] | rw [if_neg (by omega), if_neg (by omega), if_neg (by omega), if_neg (by omega), if_neg (by omega), if_pos (by omega)] | rw [if_neg (by omega), if_neg (by omega), if_neg (by omega), if_neg (by omega), if_neg (by omega), if_neg (by omega)]), rfl, rfl, rfl, rfl, rfl, rfl, .p .h (.p .h .nil)⟩
          · -- decide ((((u64of what) % 7) : Nat) = 3) false
            have p6 := of_decide_eq_false b6
            refine wpS_seq ?_
            refine wpS_region ?_
            refine s_y (v := .bool (decide ((((u64of what) % 7) : Nat) = 4))) (y_eql (a := ((((u64of what) % 7) : Nat) : Int)) (b := 4) (c := decide ((((u64of what) % 7) : Nat) = 4)) rfl rfl (decide_eq_decide.2 (by omega))) rfl ?_
            refine s_y (v := .bool (decide ((((u64of what) % 7) : Nat) = 4))) (y_assign rfl) rfl ?_
            refine wpL_nil ?_
            refine thenS_n ?_
            refine wpS_cond (t := decide ((((u64of what) % 7) : Nat) = 4)) rfl (fun b7 => ?_) (fun b7 => ?_)
            · -- decide ((((u64of what) % 7) : Nat) = 4) true
              have p7 := of_decide_eq_true b7
              refine wpS_region ?_
              refine s_y (v := .pointer (some ⟨b_2, 4, none⟩)) (y_fieldAddr (o' := 4) rfl Try.underlying86 rfl Try.sizeOf3 (by decide) rfl) rfl ?_
              refine s_e0 ?_
              refine e_store (vs := [.int .i64 (-1)]) (l' := [.int .i64 2, .int .i64 1, .int .i64 2, .int .i64 3, .int .i64 (-1), .int .i64 0]) rfl rfl rfl rfl Try.sizeOf3 .h (Nat.le_of_ble_eq_true rfl) rfl ?_
              refine wpL_nil ?_
              refine blockS_n ?_
              refine thenS_n ?_
              exact ⟨(Opc.mk 2 1 2 3 (-1) 0), (by unfold badO; first | rw [if_pos (by omega)] | rw [if_neg (by omega), if_pos (by omega)] | rw [if_neg (by omega), if_neg (by omega), if_pos (by omega)] | rw [if_neg (by omega), if_neg (by omega), if_neg (by omega), if_pos (by omega)] | rw [if_neg (by omega), if_neg (by omega), if_neg (by omega), if_neg (by omega), if_pos (by omega)] | rw [if_neg (by omega), if_neg (by omega), if_neg (by omega), if_neg (by omega), if_neg (by omega), if_pos (by omega)] | rw [if_neg (by omega), if_neg (by omega), if_neg (by omega), if_neg (by omega), if_neg (by omega), if_neg (by omega)]), rfl, rfl, rfl, rfl, rfl, rfl, .p .h (.p .h .nil)⟩
            · -- decide ((((u64of what) % 7) : Nat) = 4) false
              have p7 := of_decide_eq_false b7
              refine wpS_seq ?_
              refine wpS_region ?_
              refine s_y (v := .bool (decide ((((u64of what) % 7) : Nat) = 5))) (y_eql (a := ((((u64of what) % 7) : Nat) : Int)) (b := 5) (c := decide ((((u64of what) % 7) : Nat) = 5)) rfl rfl (decide_eq_decide.2 (by omega))) rfl ?_
              refine s_y (v := .bool (decide ((((u64of what) % 7) : Nat) = 5))) (y_assign rfl) rfl ?_
              refine wpL_nil ?_
              refine thenS_n ?_
              refine wpS_cond (t := decide ((((u64of what) % 7) : Nat) = 5)) rfl (fun b8 => ?_) (fun b8 => ?_)
              · -- decide ((((u64of what) % 7) : Nat) = 5) true
                have p8 := of_decide_eq_true b8
                refine wpS_region ?_
                refine s_y (v := .agg #[.int .i64 12, .int .i64 0, .int .i64 0, .int .i64 0, .int .i64 0, .int .i64 2]) (y_buildL (m := [(0, .int .i64 12), (5, .int .i64 2)]) (vs := #[.int .i64 12, .int .i64 0, .int .i64 0, .int .i64 0, .int .i64 0, .int .i64 2]) (evc rfl (evc rfl evn)) (fun w => by kernel_rfl)) rfl ?_
                refine s_e0 ?_
                refine e_store (vs := [.int .i64 12, .int .i64 0, .int .i64 0, .int .i64 0, .int .i64 0, .int .i64 2]) (l' := [.int .i64 12, .int .i64 0, .int .i64 0, .int .i64 0, .int .i64 0, .int .i64 2]) rfl rfl rfl rfl Try.sizeOf86 .h (Nat.le_of_ble_eq_true rfl) rfl ?_
                refine wpL_nil ?_
                refine blockS_n ?_
                refine thenS_n ?_
                exact ⟨(Opc.mk 12 0 0 0 0 2), (by unfold badO; first | rw [if_pos (by omega)] | rw [if_neg (by omega), if_pos (by omega)] | rw [if_neg (by omega), if_neg (by omega), if_pos (by omega)] | rw [if_neg (by omega), if_neg (by omega), if_neg (by omega), if_pos (by omega)] | rw [if_neg (by omega), if_neg (by omega), if_neg (by omega), if_neg (by omega), if_pos (by omega)] | rw [if_neg (by omega), if_neg (by omega), if_neg (by omega), if_neg (by omega), if_neg (by omega), if_pos (by omega)] | rw [if_neg (by omega), if_neg (by omega), if_neg (by omega), if_neg (by omega), if_neg (by omega), if_neg (by omega)]), rfl, rfl, rfl, rfl, rfl, rfl, .p .h (.p .h .nil)⟩
              · -- decide ((((u64of what) % 7) : Nat) = 5) false
                have p8 := of_decide_eq_false b8
                refine wpS_region ?_
                refine s_y (v := .pointer (some ⟨b_2, 0, none⟩)) (y_fieldAddr (o' := 0) rfl Try.underlying86 rfl Try.sizeOf3 (by decide) rfl) rfl ?_
                refine s_e0 ?_
                refine e_store (vs := [.int .i64 0]) (l' := [.int .i64 0, .int .i64 1, .int .i64 2, .int .i64 3, .int .i64 4, .int .i64 0]) rfl rfl rfl rfl Try.sizeOf3 .h (Nat.le_of_ble_eq_true rfl) rfl ?_
                refine wpL_nil ?_
                refine blockS_n ?_
                refine thenS_n ?_
                exact ⟨(Opc.mk 0 1 2 3 4 0), (by unfold badO; first | rw [if_pos (by omega)] | rw [if_neg (by omega), if_pos (by omega)] | rw [if_neg (by omega), if_neg (by omega), if_pos (by omega)] | rw [if_neg (by omega), if_neg (by omega), if_neg (by omega), if_pos (by omega)] | rw [if_neg (by omega), if_neg (by omega), if_neg (by omega), if_neg (by omega), if_pos (by omega)] | rw [if_neg (by omega), if_neg (by omega), if_neg (by omega), if_neg (by omega), if_neg (by omega), if_pos (by omega)] | rw [if_neg (by omega), if_neg (by omega), if_neg (by omega), if_neg (by omega), if_neg (by omega), if_neg (by omega)]), rfl, rfl, rfl, rfl, rfl, rfl, .p .h (.p .h .nil)⟩
  rintro ds σ L ⟨bo, hf0_9, rfl, h0_9, h1_9, h3_9, h9_9, h10_9, hE_9⟩
  refine wpS_ent hE_9 ?_; clear hE_9
  refine wpS_seq ?_
  refine wpS_region ?_
  refine s_y (v := .slice none 0 0) (y_assign rfl) rfl ?_
  refine wpL_nil ?_
  refine thenS_n ?_
  refine wpS_seq ?_
  refine wpS_seq ?_
  refine wpS_region ?_
  refine s_y (v := .int .i64 0) (y_assign rfl) rfl ?_
  refine wpL_nil ?_
  refine thenS_n ?_
  refine wpS_block ?_
  refine wpS_nil0 6 86 ?_
  refine wpS_loop (fun mez ds σ L => ∃ i : Nat, ∃ a1 : Option Addr, ∃ c1 : Nat, mez = 5 - i ∧ (i ≤ 5) ∧ ds = [] ∧ σ 0 = .int .i64 (((((u64of part) % 3) : Nat) : Int)) ∧ σ 1 = .int .i64 atz ∧ σ 3 = .int .i64 (nn.toInt) ∧ σ 9 = .pointer (some ⟨b_1, 0, none⟩) ∧ σ 10 = .pointer (some ⟨b_2, 0, none⟩) ∧ σ 11 = .slice a1 ((List.replicate i goodO).length) c1 ∧ σ 12 = .int .i64 (((i : Nat) : Int)) ∧ Ent L [osl a1 c1 ((List.replicate i goodO).length) 6 86 ((List.replicate i goodO).flatMap opcV), cel b_2 86 [.int .i64 (bo.o0), .int .i64 (bo.o1), .int .i64 (bo.o2), .int .i64 (bo.o3), .int .i64 (bo.o4), .int .i64 (bo.o5.toInt)], cel b_1 86 [.int .i64 2, .int .i64 1, .int .i64 2, .int .i64 3, .int .i64 4, .int .i64 0]]) (m0 := 5 - 0) ⟨0, none, 0, rfl, by omega, rfl, h0_9, h1_9, h3_9, h9_9, h10_9, rfl, rfl, .p .h (.p .h (.p .h .nil))⟩ ?_
  rintro mez ds σ L ⟨i, a1, c1, hm_10, hf0_10, rfl, h0_10, h1_10, h3_10, h9_10, h10_10, h11_10, h12_10, hE_10⟩
  refine wpS_ent hE_10 ?_; clear hE_10
  have hrp : (List.replicate i goodO).length = i := List.length_replicate
  refine wpS_seq ?_
  refine wpS_seq ?_
  refine wpS_region ?_
  refine s_y (v := .int .i64 (((i : Nat) : Int))) (y_move h12_10) rfl ?_
  refine s_y (v := .bool (decide ((i : Nat) < 5))) (y_lss (a := ((i : Nat) : Int)) (b := 5) (c := decide ((i : Nat) < 5)) rfl rfl (decide_eq_decide.2 (by omega))) rfl ?_
  refine wpL_nil ?_
  refine thenS_n ?_
  refine wpS_cond (t := decide ((i : Nat) < 5)) rfl (fun b11 => ?_) (fun b11 => ?_)
  · -- decide ((i : Nat) < 5) true
    have p11 := of_decide_eq_true b11
    refine wpS_skip ?_
    refine thenS_n ?_
    refine wpS_seq ?_
    refine wpS_block ?_
    refine wpS_region ?_
    refine s_y (v := .slice a1 ((List.replicate i goodO).length) c1) (y_move h11_10) rfl ?_
    refine s_y (v := .agg #[.int .i64 2, .int .i64 1, .int .i64 2, .int .i64 3, .int .i64 4, .int .i64 0]) (y_loadN (vs := [.int .i64 2, .int .i64 1, .int .i64 2, .int .i64 3, .int .i64 4, .int .i64 0]) h9_10 Try.isAgg86 Try.sizeOf86 (ownN (.t (.t .h)) rfl)) rfl ?_
    refine s_e rfl ?_
    refine e_bsliceL (e := 86) (m := [(0, .agg #[.int .i64 2, .int .i64 1, .int .i64 2, .int .i64 3, .int .i64 4, .int .i64 0])]) (l := [.int .i64 2, .int .i64 1, .int .i64 2, .int .i64 3, .int .i64 4, .int .i64 0]) (evc rfl evn) (fun w => by kernel_rfl) ?_
    intro b_12
    refine s_e rfl ?_
    refine e_appendL (enc := opcV) (xs := ((List.replicate i goodO) : List Opc)) (ns := ([(Opc.mk 2 1 2 3 4 0)] : List Opc)) (zs := (List.replicate (i + 1) goodO)) (bytes := 48) opcV_len opcV_one Try.underlying82 (i := Try.t86) rfl rfl rfl rfl rfl (by decide) rfl rfl (by first | rfl | omega) (by first | rfl | omega) (.t .h) (fun w hs => celR .h w hs) (good_next i) (by rw [List.length_replicate]; omega) (by rw [List.length_replicate]; omega) ?_
    intro a_13 c_14
    refine s_y (v := .slice a_13 ((List.replicate (i + 1) goodO).length) c_14) (y_assign rfl) rfl ?_
    refine wpL_nil ?_
    refine blockS_n ?_
    refine thenS_n ?_
    refine wpS_region ?_
    refine s_y (v := .int .i64 (((i : Nat) : Int))) (y_move h12_10) rfl ?_
    refine s_y (v := .int .i64 ((((i + 1) : Nat) : Int))) (y_add (a := ((i : Nat) : Int)) (b := 1) (c := (((i + 1) : Nat) : Int)) rfl rfl (wI (by omega) (by omega) (by omega))) rfl ?_
    refine s_y (v := .int .i64 ((((i + 1) : Nat) : Int))) (y_assign rfl) rfl ?_
    refine wpL_nil ?_
    refine thenS_n ?_
    exact ⟨_, by omega, ⟨(i + 1), a_13, c_14, rfl, by omega, rfl, h0_10, h1_10, h3_10, h9_10, h10_10, rfl, rfl, .p .h (.p (.t .h) (.p (.t .h) .nil))⟩⟩
  · -- decide ((i : Nat) < 5) false
    have p11 := of_decide_eq_false b11
    refine wpS_exit ?_
    refine thenS_x ?_
    refine thenS_x ?_
    refine blockS_h ?_
    refine thenS_n ?_
    refine wpS_seq ?_
    refine wpS_region ?_
    refine s_y (v := .slice a1 ((List.replicate i goodO).length) c1) (y_move h11_10) rfl ?_
    refine s_y (v := .int .i64 atz) (y_move h1_10) rfl ?_
    refine s_y (v := .int .u64 ((((u64of atz) : Nat) : Int))) (y_convI (a := atz) (c := (((u64of atz) : Nat) : Int)) rfl Try.underlying3 Try.underlying46 (u64of_wrap _)) rfl ?_
    refine s_y (v := .int .u64 (((((u64of atz) % 5) : Nat) : Int))) (y_rem (a := (((u64of atz) : Nat) : Int)) (b := 5) (c := ((((u64of atz) % 5) : Nat) : Int)) rfl rfl (by omega) (n_rem _ 5 (by omega))) rfl ?_
    refine s_y (v := .int .i64 (((((u64of atz) % 5) : Nat) : Int))) (y_convI (a := ((((u64of atz) % 5) : Nat) : Int)) (c := ((((u64of atz) % 5) : Nat) : Int)) rfl Try.underlying46 Try.underlying3 (wI rfl (by omega) (by omega))) rfl ?_
    refine s_y (v := .agg #[.int .i64 (bo.o0), .int .i64 (bo.o1), .int .i64 (bo.o2), .int .i64 (bo.o3), .int .i64 (bo.o4), .int .i64 (bo.o5.toInt)]) (y_loadN (vs := [.int .i64 (bo.o0), .int .i64 (bo.o1), .int .i64 (bo.o2), .int .i64 (bo.o3), .int .i64 (bo.o4), .int .i64 (bo.o5.toInt)]) h10_10 Try.isAgg86 Try.sizeOf86 (ownN (.t .h) rfl)) rfl ?_
    refine s_y (v := .pointer (some ⟨aB a1, aO a1 + ((u64of atz) % 5) * 6, none⟩)) (y_idx (o := ((u64of atz) % 5) * 6) rfl rfl Try.underlying82 Try.sizeOf86 (oslR .h) (fl_len opcV_len _) (by decide) (by omega) (by omega) (by omega)) rfl ?_
    refine s_e0 ?_
    refine e_storeL (enc := opcV) (xs := (List.replicate i goodO)) (y := bo) opcV_len opcV_one (by decide) rfl rfl rfl Try.sizeOf86 .h (by (try simp only [List.length_set]); omega) ?_
    refine wpL_nil ?_
    refine thenS_n ?_
    refine wpS_seq ?_
    refine wpS_region ?_
    refine s_y (v := .agg #[.int .i64 2, .slice none 0 0, .slice none 0 0, .slice none 0 0]) (y_buildL (m := [(0, .int .i64 2)]) (vs := #[.int .i64 2, .slice none 0 0, .slice none 0 0, .slice none 0 0]) (evc rfl evn) (fun w => by kernel_rfl)) rfl ?_
    refine s_e rfl ?_
    refine e_alloc (l := [.int .i64 0, .slice none 0 0, .slice none 0 0, .slice none 0 0]) Try.zeroValue84 rfl ?_
    intro b_15
    refine s_e0 ?_
    refine e_store (vs := [.int .i64 2, .slice none 0 0, .slice none 0 0, .slice none 0 0]) (l' := [.int .i64 2, .slice none 0 0, .slice none 0 0, .slice none 0 0]) rfl rfl rfl rfl Try.sizeOf84 .h (Nat.le_of_ble_eq_true rfl) rfl ?_
    refine wpL_nil ?_
    refine thenS_n ?_
    refine wpS_seq ?_
    refine wpS_seq ?_
    refine wpS_region ?_
    refine s_y (v := .int .i64 (((((u64of part) % 3) : Nat) : Int))) (y_move h0_10) rfl ?_
    refine wpL_nil ?_
    refine thenS_n ?_
    refine wpS_block ?_
    refine wpS_seq ?_
    refine wpS_region ?_
    refine s_y (v := .bool (decide ((((u64of part) % 3) : Nat) = 0))) (y_eql (a := ((((u64of part) % 3) : Nat) : Int)) (b := 0) (c := decide ((((u64of part) % 3) : Nat) = 0)) rfl rfl (decide_eq_decide.2 (by omega))) rfl ?_
    refine s_y (v := .bool (decide ((((u64of part) % 3) : Nat) = 0))) (y_assign rfl) rfl ?_
    refine wpL_nil ?_
    refine thenS_n ?_
    refine wpS_cond (t := decide ((((u64of part) % 3) : Nat) = 0)) rfl (fun b16 => ?_) (fun b16 => ?_)
    · -- decide ((((u64of part) % 3) : Nat) = 0) true
      have p16 := of_decide_eq_true b16
      refine wpS_region ?_
      refine s_y (v := .slice a1 ((List.replicate i goodO).length) c1) (y_move h11_10) rfl ?_
      refine s_y (v := .pointer (some ⟨b_15, 1, none⟩)) (y_fieldAddr (o' := 1) rfl Try.underlying84 rfl Try.sizeOf82 (by decide) rfl) rfl ?_
      refine s_e0 ?_
      refine e_store (vs := [.slice a1 ((List.replicate i goodO).length) c1]) (l' := [.int .i64 2, .slice a1 ((List.replicate i goodO).length) c1, .slice none 0 0, .slice none 0 0]) rfl rfl rfl rfl Try.sizeOf82 .h (Nat.le_of_ble_eq_true rfl) rfl ?_
      refine wpL_nil ?_
      refine blockS_n ?_
      refine thenS_n ?_
      refine wpS_seq ?_
      refine wpS_region ?_
      refine s_y (v := .bool true) (y_call (args := #[]) (v := .bool true) Try.call82 ev0 (fun w hs => awake11_c w)) rfl ?_
      refine s_y (v := .bool true) (y_move rfl) rfl ?_
      refine s_gy (y_loadN (vs := [.int .i64 2, .slice a1 ((List.replicate i goodO).length) c1, .slice none 0 0, .slice none 0 0]) rfl Try.isAgg84 Try.sizeOf84 (ownN .h rfl)) rfl rfl rfl rfl rfl rfl ?_
      refine s_gy (y_call (args := #[.agg #[.int .i64 2, .slice a1 ((List.replicate i goodO).length) c1, .slice none 0 0, .slice none 0 0]]) (v := .int .i64 (chk11 2 ((List.replicate i goodO).set ((u64of atz) % 5) bo) ([]) ([]))) Try.call84 (ev1 rfl) (fun w hs => check_c 2 a1 none none ((List.replicate i goodO).length) c1 0 0 0 0 ((List.replicate i goodO).set ((u64of atz) % 5) bo) ([]) ([]) w (by first | rfl | (simp only [List.length_set]; done) | omega) (oslR (.t .h) w hs) (by omega) (by first | rfl | (simp only [List.length_set]; done) | omega) (Rds.nil _ _) (by omega) (by first | rfl | (simp only [List.length_set]; done) | omega) (Rds.nil _ _) (by omega))) rfl rfl rfl rfl rfl rfl ?_
      refine s_gy (y_eql (a := chk11 2 ((List.replicate i goodO).set ((u64of atz) % 5) bo) ([]) ([])) (b := 8) rfl rfl rfl) rfl rfl rfl rfl rfl rfl ?_
      refine s_y (v := .bool (decide ((chk11 2 ((List.replicate i goodO).set ((u64of atz) % 5) bo) ([]) ([]) : Int) = 8))) (y_pickT (v := .bool (decide ((chk11 2 ((List.replicate i goodO).set ((u64of atz) % 5) bo) ([]) ([]) : Int) = 8))) rfl rfl rfl) rfl ?_
      refine s_y (v := .bool (decide ((chk11 2 ((List.replicate i goodO).set ((u64of atz) % 5) bo) ([]) ([]) : Int) = 8))) (y_move rfl) rfl ?_
      refine s_gy (y_loadN (vs := [.int .i64 2, .slice a1 ((List.replicate i goodO).length) c1, .slice none 0 0, .slice none 0 0]) rfl Try.isAgg84 Try.sizeOf84 (ownN .h rfl)) rfl rfl rfl rfl (b' := decide ((chk11 2 ((List.replicate i goodO).set ((u64of atz) % 5) bo) ([]) ([]) : Int) = 8)) rfl (decide_eq_true (chk_8 (by rw [(by assumption : bo = _)]; first | exact bad11_0 _ (by rw [List.length_replicate]; omega) | exact bad11_1 _ (by rw [List.length_replicate]; omega) | exact bad11_2 _ (by rw [List.length_replicate]; omega)))) ?_
      refine s_gy (y_move h3_10) rfl rfl rfl rfl (b' := decide ((chk11 2 ((List.replicate i goodO).set ((u64of atz) % 5) bo) ([]) ([]) : Int) = 8)) rfl (decide_eq_true (chk_8 (by rw [(by assumption : bo = _)]; first | exact bad11_0 _ (by rw [List.length_replicate]; omega) | exact bad11_1 _ (by rw [List.length_replicate]; omega) | exact bad11_2 _ (by rw [List.length_replicate]; omega)))) ?_
      refine s_gy (y_buildL (m := []) (vs := #[.int .i64 0, .int .i64 0]) evn (fun w => by kernel_rfl)) rfl rfl rfl rfl (b' := decide ((chk11 2 ((List.replicate i goodO).set ((u64of atz) % 5) bo) ([]) ([]) : Int) = 8)) rfl (decide_eq_true (chk_8 (by rw [(by assumption : bo = _)]; first | exact bad11_0 _ (by rw [List.length_replicate]; omega) | exact bad11_1 _ (by rw [List.length_replicate]; omega) | exact bad11_2 _ (by rw [List.length_replicate]; omega)))) ?_
      refine s_ge rfl rfl rfl rfl (b' := decide ((chk11 2 ((List.replicate i goodO).set ((u64of atz) % 5) bo) ([]) ([]) : Int) = 8)) rfl (decide_eq_true (chk_8 (by rw [(by assumption : bo = _)]; first | exact bad11_0 _ (by rw [List.length_replicate]; omega) | exact bad11_1 _ (by rw [List.length_replicate]; omega) | exact bad11_2 _ (by rw [List.length_replicate]; omega)))) ?_
      refine e_call (f := 83) (args := #[.agg #[.int .i64 2, .slice a1 ((List.replicate i goodO).length) c1, .slice none 0 0, .slice none 0 0], .int .i64 (nn.toInt), .agg #[.int .i64 0, .int .i64 0]]) (X := Option Addr × Nat) (A := []) (M := [cel b_15 84 [.int .i64 2, .slice a1 ((List.replicate i goodO).length) c1, .slice none 0 0, .slice none 0 0], osl a1 c1 ((List.replicate i goodO).length) 6 86 (((List.replicate i goodO).set ((u64of atz) % 5) bo).flatMap opcV), cel b_2 86 [.int .i64 (bo.o0), .int .i64 (bo.o1), .int .i64 (bo.o2), .int .i64 (bo.o3), .int .i64 (bo.o4), .int .i64 (bo.o5.toInt)], cel b_1 86 [.int .i64 2, .int .i64 1, .int .i64 2, .int .i64 3, .int .i64 4, .int .i64 0]]) (V := slV (mapC (chkB 2 ((List.replicate i goodO).set ((u64of atz) % 5) bo) ([]) ([])) 2 ((List.replicate i goodO).set ((u64of atz) % 5) bo) nn 0 0)) (A' := fun x => [slR recV 4 23 (mapC (chkB 2 ((List.replicate i goodO).set ((u64of atz) % 5) bo) ([]) ([])) 2 ((List.replicate i goodO).set ((u64of atz) % 5) bo) nn 0 0) x]) (C := fun _ => True) Try.call83 (ev3 rfl rfl rfl) (.p .h (.p .h (.p .h (.p .h .nil)))) (fun w hs => map_c 2 a1 none none ((List.replicate i goodO).length) c1 0 0 0 0 ((List.replicate i goodO).set ((u64of atz) % 5) bo) ([]) ([]) nn 0 0 w (by first | rfl | (simp only [List.length_set]; done) | omega) (oslR (.t .h) w hs) (by omega) (by first | rfl | (simp only [List.length_set]; done) | omega) (Rds.nil _ _) (by omega) (by first | rfl | (simp only [List.length_set]; done) | omega) (Rds.nil _ _) (by omega)) ?_
      rintro ⟨a_17, c_18⟩ -
      have hml20 : (mapC (chkB 2 ((List.replicate i goodO).set ((u64of atz) % 5) bo) ([]) ([])) 2 ((List.replicate i goodO).set ((u64of atz) % 5) bo) nn 0 0).length ≤ 4 := mapC_len
      refine s_gy (y_len (ty' := 0) (at_ := #[]) rfl Try.underlying69) rfl rfl rfl rfl (b' := decide ((chk11 2 ((List.replicate i goodO).set ((u64of atz) % 5) bo) ([]) ([]) : Int) = 8)) rfl (decide_eq_true (chk_8 (by rw [(by assumption : bo = _)]; first | exact bad11_0 _ (by rw [List.length_replicate]; omega) | exact bad11_1 _ (by rw [List.length_replicate]; omega) | exact bad11_2 _ (by rw [List.length_replicate]; omega)))) ?_
      refine s_gy (y_eql (a := (((mapC (chkB 2 ((List.replicate i goodO).set ((u64of atz) % 5) bo) ([]) ([])) 2 ((List.replicate i goodO).set ((u64of atz) % 5) bo) nn 0 0).length : Nat) : Int)) (b := 0) (c := decide (((mapC (chkB 2 ((List.replicate i goodO).set ((u64of atz) % 5) bo) ([]) ([])) 2 ((List.replicate i goodO).set ((u64of atz) % 5) bo) nn 0 0).length : Nat) = 0)) rfl rfl (decide_eq_decide.2 (by omega))) rfl rfl rfl rfl (b' := decide ((chk11 2 ((List.replicate i goodO).set ((u64of atz) % 5) bo) ([]) ([]) : Int) = 8)) rfl (decide_eq_true (chk_8 (by rw [(by assumption : bo = _)]; first | exact bad11_0 _ (by rw [List.length_replicate]; omega) | exact bad11_1 _ (by rw [List.length_replicate]; omega) | exact bad11_2 _ (by rw [List.length_replicate]; omega)))) ?_
      refine s_y (v := .bool (decide (((mapC (chkB 2 ((List.replicate i goodO).set ((u64of atz) % 5) bo) ([]) ([])) 2 ((List.replicate i goodO).set ((u64of atz) % 5) bo) nn 0 0).length : Nat) = 0))) (y_pickT (b := decide ((chk11 2 ((List.replicate i goodO).set ((u64of atz) % 5) bo) ([]) ([]) : Int) = 8)) (v := .bool (decide (((mapC (chkB 2 ((List.replicate i goodO).set ((u64of atz) % 5) bo) ([]) ([])) 2 ((List.replicate i goodO).set ((u64of atz) % 5) bo) nn 0 0).length : Nat) = 0))) rfl (decide_eq_true (chk_8 (by rw [(by assumption : bo = _)]; first | exact bad11_0 _ (by rw [List.length_replicate]; omega) | exact bad11_1 _ (by rw [List.length_replicate]; omega) | exact bad11_2 _ (by rw [List.length_replicate]; omega)))) rfl) rfl ?_
      refine s_y (v := .bool (decide (((mapC (chkB 2 ((List.replicate i goodO).set ((u64of atz) % 5) bo) ([]) ([])) 2 ((List.replicate i goodO).set ((u64of atz) % 5) bo) nn 0 0).length : Nat) = 0))) (y_move rfl) rfl ?_
      refine s_gy (y_loadN (vs := [.int .i64 2, .slice a1 ((List.replicate i goodO).length) c1, .slice none 0 0, .slice none 0 0]) rfl Try.isAgg84 Try.sizeOf84 (ownN (.t .h) rfl)) rfl rfl rfl rfl (b' := decide (((mapC (chkB 2 ((List.replicate i goodO).set ((u64of atz) % 5) bo) ([]) ([])) 2 ((List.replicate i goodO).set ((u64of atz) % 5) bo) nn 0 0).length : Nat) = 0)) rfl (decide_eq_true (by rw [mapC_no (by rw [(by assumption : bo = _)]; first | exact bad11_0 _ (by rw [List.length_replicate]; omega) | exact bad11_1 _ (by rw [List.length_replicate]; omega) | exact bad11_2 _ (by rw [List.length_replicate]; omega))]; rfl)) ?_
      refine s_gy (y_move h3_10) rfl rfl rfl rfl (b' := decide (((mapC (chkB 2 ((List.replicate i goodO).set ((u64of atz) % 5) bo) ([]) ([])) 2 ((List.replicate i goodO).set ((u64of atz) % 5) bo) nn 0 0).length : Nat) = 0)) rfl (decide_eq_true (by rw [mapC_no (by rw [(by assumption : bo = _)]; first | exact bad11_0 _ (by rw [List.length_replicate]; omega) | exact bad11_1 _ (by rw [List.length_replicate]; omega) | exact bad11_2 _ (by rw [List.length_replicate]; omega))]; rfl)) ?_
      refine s_gy (y_move h3_10) rfl rfl rfl rfl (b' := decide (((mapC (chkB 2 ((List.replicate i goodO).set ((u64of atz) % 5) bo) ([]) ([])) 2 ((List.replicate i goodO).set ((u64of atz) % 5) bo) nn 0 0).length : Nat) = 0)) rfl (decide_eq_true (by rw [mapC_no (by rw [(by assumption : bo = _)]; first | exact bad11_0 _ (by rw [List.length_replicate]; omega) | exact bad11_1 _ (by rw [List.length_replicate]; omega) | exact bad11_2 _ (by rw [List.length_replicate]; omega))]; rfl)) ?_
      refine s_gy (y_call (args := #[.agg #[.int .i64 2, .slice a1 ((List.replicate i goodO).length) c1, .slice none 0 0, .slice none 0 0], .int .i64 (nn.toInt), .int .i64 (nn.toInt)]) (v := .int .i64 (((doneC (chkB 2 ((List.replicate i goodO).set ((u64of atz) % 5) bo) ([]) ([])) ([]) nn nn)).toInt)) Try.call85 (ev3 rfl rfl rfl) (fun w hs => fold_c 2 a1 none none ((List.replicate i goodO).length) c1 0 0 0 0 ((List.replicate i goodO).set ((u64of atz) % 5) bo) ([]) ([]) nn nn w (by first | rfl | (simp only [List.length_set]; done) | omega) (oslR (.t (.t .h)) w hs) (by omega) (by first | rfl | (simp only [List.length_set]; done) | omega) (Rds.nil _ _) (by omega) (by first | rfl | (simp only [List.length_set]; done) | omega) (Rds.nil _ _) (by omega))) rfl rfl rfl rfl (b' := decide (((mapC (chkB 2 ((List.replicate i goodO).set ((u64of atz) % 5) bo) ([]) ([])) 2 ((List.replicate i goodO).set ((u64of atz) % 5) bo) nn 0 0).length : Nat) = 0)) rfl (decide_eq_true (by rw [mapC_no (by rw [(by assumption : bo = _)]; first | exact bad11_0 _ (by rw [List.length_replicate]; omega) | exact bad11_1 _ (by rw [List.length_replicate]; omega) | exact bad11_2 _ (by rw [List.length_replicate]; omega))]; rfl)) ?_
      refine s_gy (y_eql (a := ((doneC (chkB 2 ((List.replicate i goodO).set ((u64of atz) % 5) bo) ([]) ([])) ([]) nn nn)).toInt) (b := 0) (c := decide ((doneC (chkB 2 ((List.replicate i goodO).set ((u64of atz) % 5) bo) ([]) ([])) ([]) nn nn) = 0)) rfl rfl (i_eqlL _ 0 (by decide))) rfl rfl rfl rfl (b' := decide (((mapC (chkB 2 ((List.replicate i goodO).set ((u64of atz) % 5) bo) ([]) ([])) 2 ((List.replicate i goodO).set ((u64of atz) % 5) bo) nn 0 0).length : Nat) = 0)) rfl (decide_eq_true (by rw [mapC_no (by rw [(by assumption : bo = _)]; first | exact bad11_0 _ (by rw [List.length_replicate]; omega) | exact bad11_1 _ (by rw [List.length_replicate]; omega) | exact bad11_2 _ (by rw [List.length_replicate]; omega))]; rfl)) ?_
      refine s_y (v := .bool (decide ((doneC (chkB 2 ((List.replicate i goodO).set ((u64of atz) % 5) bo) ([]) ([])) ([]) nn nn) = 0))) (y_pickT (b := decide (((mapC (chkB 2 ((List.replicate i goodO).set ((u64of atz) % 5) bo) ([]) ([])) 2 ((List.replicate i goodO).set ((u64of atz) % 5) bo) nn 0 0).length : Nat) = 0)) (v := .bool (decide ((doneC (chkB 2 ((List.replicate i goodO).set ((u64of atz) % 5) bo) ([]) ([])) ([]) nn nn) = 0))) rfl (decide_eq_true (by rw [mapC_no (by rw [(by assumption : bo = _)]; first | exact bad11_0 _ (by rw [List.length_replicate]; omega) | exact bad11_1 _ (by rw [List.length_replicate]; omega) | exact bad11_2 _ (by rw [List.length_replicate]; omega))]; rfl)) rfl) rfl ?_
      refine s_y (v := .bool (decide ((doneC (chkB 2 ((List.replicate i goodO).set ((u64of atz) % 5) bo) ([]) ([])) ([]) nn nn) = 0))) (y_move rfl) rfl ?_
      refine s_gy (y_loadN (vs := [.int .i64 2, .slice a1 ((List.replicate i goodO).length) c1, .slice none 0 0, .slice none 0 0]) rfl Try.isAgg84 Try.sizeOf84 (ownN (.t .h) rfl)) rfl rfl rfl rfl (b' := decide ((doneC (chkB 2 ((List.replicate i goodO).set ((u64of atz) % 5) bo) ([]) ([])) ([]) nn nn) = 0)) rfl (decide_eq_true (doneC_no (by rw [(by assumption : bo = _)]; first | exact bad11_0 _ (by rw [List.length_replicate]; omega) | exact bad11_1 _ (by rw [List.length_replicate]; omega) | exact bad11_2 _ (by rw [List.length_replicate]; omega)))) ?_
      refine s_gy (y_move h3_10) rfl rfl rfl rfl (b' := decide ((doneC (chkB 2 ((List.replicate i goodO).set ((u64of atz) % 5) bo) ([]) ([])) ([]) nn nn) = 0)) rfl (decide_eq_true (doneC_no (by rw [(by assumption : bo = _)]; first | exact bad11_0 _ (by rw [List.length_replicate]; omega) | exact bad11_1 _ (by rw [List.length_replicate]; omega) | exact bad11_2 _ (by rw [List.length_replicate]; omega)))) ?_
      refine s_gy (y_move h3_10) rfl rfl rfl rfl (b' := decide ((doneC (chkB 2 ((List.replicate i goodO).set ((u64of atz) % 5) bo) ([]) ([])) ([]) nn nn) = 0)) rfl (decide_eq_true (doneC_no (by rw [(by assumption : bo = _)]; first | exact bad11_0 _ (by rw [List.length_replicate]; omega) | exact bad11_1 _ (by rw [List.length_replicate]; omega) | exact bad11_2 _ (by rw [List.length_replicate]; omega)))) ?_
      refine s_gy (y_call (args := #[.agg #[.int .i64 2, .slice a1 ((List.replicate i goodO).length) c1, .slice none 0 0, .slice none 0 0], .int .i64 (nn.toInt), .int .i64 (nn.toInt)]) (v := .int .i64 (((doneC (chkB 2 ((List.replicate i goodO).set ((u64of atz) % 5) bo) ([]) ([])) ([]) nn nn)).toInt)) Try.call89 (ev3 rfl rfl rfl) (fun w hs => finish_c 2 a1 none none ((List.replicate i goodO).length) c1 0 0 0 0 ((List.replicate i goodO).set ((u64of atz) % 5) bo) ([]) ([]) nn nn w (by first | rfl | (simp only [List.length_set]; done) | omega) (oslR (.t (.t .h)) w hs) (by omega) (by first | rfl | (simp only [List.length_set]; done) | omega) (Rds.nil _ _) (by omega) (by first | rfl | (simp only [List.length_set]; done) | omega) (Rds.nil _ _) (by omega))) rfl rfl rfl rfl (b' := decide ((doneC (chkB 2 ((List.replicate i goodO).set ((u64of atz) % 5) bo) ([]) ([])) ([]) nn nn) = 0)) rfl (decide_eq_true (doneC_no (by rw [(by assumption : bo = _)]; first | exact bad11_0 _ (by rw [List.length_replicate]; omega) | exact bad11_1 _ (by rw [List.length_replicate]; omega) | exact bad11_2 _ (by rw [List.length_replicate]; omega)))) ?_
      refine s_gy (y_eql (a := ((doneC (chkB 2 ((List.replicate i goodO).set ((u64of atz) % 5) bo) ([]) ([])) ([]) nn nn)).toInt) (b := 0) (c := decide ((doneC (chkB 2 ((List.replicate i goodO).set ((u64of atz) % 5) bo) ([]) ([])) ([]) nn nn) = 0)) rfl rfl (i_eqlL _ 0 (by decide))) rfl rfl rfl rfl (b' := decide ((doneC (chkB 2 ((List.replicate i goodO).set ((u64of atz) % 5) bo) ([]) ([])) ([]) nn nn) = 0)) rfl (decide_eq_true (doneC_no (by rw [(by assumption : bo = _)]; first | exact bad11_0 _ (by rw [List.length_replicate]; omega) | exact bad11_1 _ (by rw [List.length_replicate]; omega) | exact bad11_2 _ (by rw [List.length_replicate]; omega)))) ?_
      refine s_y (v := .bool (decide ((doneC (chkB 2 ((List.replicate i goodO).set ((u64of atz) % 5) bo) ([]) ([])) ([]) nn nn) = 0))) (y_pickT (b := decide ((doneC (chkB 2 ((List.replicate i goodO).set ((u64of atz) % 5) bo) ([]) ([])) ([]) nn nn) = 0)) (v := .bool (decide ((doneC (chkB 2 ((List.replicate i goodO).set ((u64of atz) % 5) bo) ([]) ([])) ([]) nn nn) = 0))) rfl (decide_eq_true (doneC_no (by rw [(by assumption : bo = _)]; first | exact bad11_0 _ (by rw [List.length_replicate]; omega) | exact bad11_1 _ (by rw [List.length_replicate]; omega) | exact bad11_2 _ (by rw [List.length_replicate]; omega)))) rfl) rfl ?_
      refine s_y (v := .bool (decide ((doneC (chkB 2 ((List.replicate i goodO).set ((u64of atz) % 5) bo) ([]) ([])) ([]) nn nn) = 0))) (y_assign rfl) rfl ?_
      refine wpL_nil ?_
      refine thenS_n ?_
      refine wpS_ret ?_
      refine fin1 (v := .bool (decide ((doneC (chkB 2 ((List.replicate i goodO).set ((u64of atz) % 5) bo) ([]) ([])) ([]) nn nn) = 0))) (.inr rfl) (.nil) Try.results23 rfl ?_
      exact fun w' hs => ⟨congrArg (fun b => Ending.returned (Value.bool b)) (show (decide ((doneC (chkB 2 ((List.replicate i goodO).set ((u64of atz) % 5) bo) ([]) ([])) ([]) nn nn) = 0)) = true from (decide_eq_true (doneC_no (by rw [(by assumption : bo = _)]; first | exact bad11_0 _ (by rw [List.length_replicate]; omega) | exact bad11_1 _ (by rw [List.length_replicate]; omega) | exact bad11_2 _ (by rw [List.length_replicate]; omega))))), hs⟩
    · -- decide ((((u64of part) % 3) : Nat) = 0) false
      have p16 := of_decide_eq_false b16
      refine wpS_seq ?_
      refine wpS_region ?_
      refine s_y (v := .bool (decide ((((u64of part) % 3) : Nat) = 1))) (y_eql (a := ((((u64of part) % 3) : Nat) : Int)) (b := 1) (c := decide ((((u64of part) % 3) : Nat) = 1)) rfl rfl (decide_eq_decide.2 (by omega))) rfl ?_
      refine s_y (v := .bool (decide ((((u64of part) % 3) : Nat) = 1))) (y_assign rfl) rfl ?_
      refine wpL_nil ?_
      refine thenS_n ?_
      refine wpS_cond (t := decide ((((u64of part) % 3) : Nat) = 1)) rfl (fun b21 => ?_) (fun b21 => ?_)
      · -- decide ((((u64of part) % 3) : Nat) = 1) true
        have p21 := of_decide_eq_true b21
        refine wpS_region ?_
        refine s_y (v := .slice a1 ((List.replicate i goodO).length) c1) (y_move h11_10) rfl ?_
        refine s_y (v := .pointer (some ⟨b_15, 2, none⟩)) (y_fieldAddr (o' := 2) rfl Try.underlying84 rfl Try.sizeOf82 (by decide) rfl) rfl ?_
        refine s_e0 ?_
        refine e_store (vs := [.slice a1 ((List.replicate i goodO).length) c1]) (l' := [.int .i64 2, .slice none 0 0, .slice a1 ((List.replicate i goodO).length) c1, .slice none 0 0]) rfl rfl rfl rfl Try.sizeOf82 .h (Nat.le_of_ble_eq_true rfl) rfl ?_
        refine wpL_nil ?_
        refine blockS_n ?_
        refine thenS_n ?_
        refine wpS_seq ?_
        refine wpS_region ?_
        refine s_y (v := .bool true) (y_call (args := #[]) (v := .bool true) Try.call82 ev0 (fun w hs => awake11_c w)) rfl ?_
        refine s_y (v := .bool true) (y_move rfl) rfl ?_
        refine s_gy (y_loadN (vs := [.int .i64 2, .slice none 0 0, .slice a1 ((List.replicate i goodO).length) c1, .slice none 0 0]) rfl Try.isAgg84 Try.sizeOf84 (ownN .h rfl)) rfl rfl rfl rfl rfl rfl ?_
        refine s_gy (y_call (args := #[.agg #[.int .i64 2, .slice none 0 0, .slice a1 ((List.replicate i goodO).length) c1, .slice none 0 0]]) (v := .int .i64 (chk11 2 ([]) ((List.replicate i goodO).set ((u64of atz) % 5) bo) ([]))) Try.call84 (ev1 rfl) (fun w hs => check_c 2 none a1 none 0 0 ((List.replicate i goodO).length) c1 0 0 ([]) ((List.replicate i goodO).set ((u64of atz) % 5) bo) ([]) w (by first | rfl | (simp only [List.length_set]; done) | omega) (Rds.nil _ _) (by omega) (by first | rfl | (simp only [List.length_set]; done) | omega) (oslR (.t .h) w hs) (by omega) (by first | rfl | (simp only [List.length_set]; done) | omega) (Rds.nil _ _) (by omega))) rfl rfl rfl rfl rfl rfl ?_
        refine s_gy (y_eql (a := chk11 2 ([]) ((List.replicate i goodO).set ((u64of atz) % 5) bo) ([])) (b := 8) rfl rfl rfl) rfl rfl rfl rfl rfl rfl ?_
        refine s_y (v := .bool (decide ((chk11 2 ([]) ((List.replicate i goodO).set ((u64of atz) % 5) bo) ([]) : Int) = 8))) (y_pickT (v := .bool (decide ((chk11 2 ([]) ((List.replicate i goodO).set ((u64of atz) % 5) bo) ([]) : Int) = 8))) rfl rfl rfl) rfl ?_
        refine s_y (v := .bool (decide ((chk11 2 ([]) ((List.replicate i goodO).set ((u64of atz) % 5) bo) ([]) : Int) = 8))) (y_move rfl) rfl ?_
        refine s_gy (y_loadN (vs := [.int .i64 2, .slice none 0 0, .slice a1 ((List.replicate i goodO).length) c1, .slice none 0 0]) rfl Try.isAgg84 Try.sizeOf84 (ownN .h rfl)) rfl rfl rfl rfl (b' := decide ((chk11 2 ([]) ((List.replicate i goodO).set ((u64of atz) % 5) bo) ([]) : Int) = 8)) rfl (decide_eq_true (chk_8 (by rw [(by assumption : bo = _)]; first | exact bad11_0 _ (by rw [List.length_replicate]; omega) | exact bad11_1 _ (by rw [List.length_replicate]; omega) | exact bad11_2 _ (by rw [List.length_replicate]; omega)))) ?_
        refine s_gy (y_move h3_10) rfl rfl rfl rfl (b' := decide ((chk11 2 ([]) ((List.replicate i goodO).set ((u64of atz) % 5) bo) ([]) : Int) = 8)) rfl (decide_eq_true (chk_8 (by rw [(by assumption : bo = _)]; first | exact bad11_0 _ (by rw [List.length_replicate]; omega) | exact bad11_1 _ (by rw [List.length_replicate]; omega) | exact bad11_2 _ (by rw [List.length_replicate]; omega)))) ?_
        refine s_gy (y_buildL (m := []) (vs := #[.int .i64 0, .int .i64 0]) evn (fun w => by kernel_rfl)) rfl rfl rfl rfl (b' := decide ((chk11 2 ([]) ((List.replicate i goodO).set ((u64of atz) % 5) bo) ([]) : Int) = 8)) rfl (decide_eq_true (chk_8 (by rw [(by assumption : bo = _)]; first | exact bad11_0 _ (by rw [List.length_replicate]; omega) | exact bad11_1 _ (by rw [List.length_replicate]; omega) | exact bad11_2 _ (by rw [List.length_replicate]; omega)))) ?_
        refine s_ge rfl rfl rfl rfl (b' := decide ((chk11 2 ([]) ((List.replicate i goodO).set ((u64of atz) % 5) bo) ([]) : Int) = 8)) rfl (decide_eq_true (chk_8 (by rw [(by assumption : bo = _)]; first | exact bad11_0 _ (by rw [List.length_replicate]; omega) | exact bad11_1 _ (by rw [List.length_replicate]; omega) | exact bad11_2 _ (by rw [List.length_replicate]; omega)))) ?_
        refine e_call (f := 83) (args := #[.agg #[.int .i64 2, .slice none 0 0, .slice a1 ((List.replicate i goodO).length) c1, .slice none 0 0], .int .i64 (nn.toInt), .agg #[.int .i64 0, .int .i64 0]]) (X := Option Addr × Nat) (A := []) (M := [cel b_15 84 [.int .i64 2, .slice none 0 0, .slice a1 ((List.replicate i goodO).length) c1, .slice none 0 0], osl a1 c1 ((List.replicate i goodO).length) 6 86 (((List.replicate i goodO).set ((u64of atz) % 5) bo).flatMap opcV), cel b_2 86 [.int .i64 (bo.o0), .int .i64 (bo.o1), .int .i64 (bo.o2), .int .i64 (bo.o3), .int .i64 (bo.o4), .int .i64 (bo.o5.toInt)], cel b_1 86 [.int .i64 2, .int .i64 1, .int .i64 2, .int .i64 3, .int .i64 4, .int .i64 0]]) (V := slV (mapC (chkB 2 ([]) ((List.replicate i goodO).set ((u64of atz) % 5) bo) ([])) 2 ([]) nn 0 0)) (A' := fun x => [slR recV 4 23 (mapC (chkB 2 ([]) ((List.replicate i goodO).set ((u64of atz) % 5) bo) ([])) 2 ([]) nn 0 0) x]) (C := fun _ => True) Try.call83 (ev3 rfl rfl rfl) (.p .h (.p .h (.p .h (.p .h .nil)))) (fun w hs => map_c 2 none a1 none 0 0 ((List.replicate i goodO).length) c1 0 0 ([]) ((List.replicate i goodO).set ((u64of atz) % 5) bo) ([]) nn 0 0 w (by first | rfl | (simp only [List.length_set]; done) | omega) (Rds.nil _ _) (by omega) (by first | rfl | (simp only [List.length_set]; done) | omega) (oslR (.t .h) w hs) (by omega) (by first | rfl | (simp only [List.length_set]; done) | omega) (Rds.nil _ _) (by omega)) ?_
        rintro ⟨a_22, c_23⟩ -
        have hml25 : (mapC (chkB 2 ([]) ((List.replicate i goodO).set ((u64of atz) % 5) bo) ([])) 2 ([]) nn 0 0).length ≤ 4 := mapC_len
        refine s_gy (y_len (ty' := 0) (at_ := #[]) rfl Try.underlying69) rfl rfl rfl rfl (b' := decide ((chk11 2 ([]) ((List.replicate i goodO).set ((u64of atz) % 5) bo) ([]) : Int) = 8)) rfl (decide_eq_true (chk_8 (by rw [(by assumption : bo = _)]; first | exact bad11_0 _ (by rw [List.length_replicate]; omega) | exact bad11_1 _ (by rw [List.length_replicate]; omega) | exact bad11_2 _ (by rw [List.length_replicate]; omega)))) ?_
        refine s_gy (y_eql (a := (((mapC (chkB 2 ([]) ((List.replicate i goodO).set ((u64of atz) % 5) bo) ([])) 2 ([]) nn 0 0).length : Nat) : Int)) (b := 0) (c := decide (((mapC (chkB 2 ([]) ((List.replicate i goodO).set ((u64of atz) % 5) bo) ([])) 2 ([]) nn 0 0).length : Nat) = 0)) rfl rfl (decide_eq_decide.2 (by omega))) rfl rfl rfl rfl (b' := decide ((chk11 2 ([]) ((List.replicate i goodO).set ((u64of atz) % 5) bo) ([]) : Int) = 8)) rfl (decide_eq_true (chk_8 (by rw [(by assumption : bo = _)]; first | exact bad11_0 _ (by rw [List.length_replicate]; omega) | exact bad11_1 _ (by rw [List.length_replicate]; omega) | exact bad11_2 _ (by rw [List.length_replicate]; omega)))) ?_
        refine s_y (v := .bool (decide (((mapC (chkB 2 ([]) ((List.replicate i goodO).set ((u64of atz) % 5) bo) ([])) 2 ([]) nn 0 0).length : Nat) = 0))) (y_pickT (b := decide ((chk11 2 ([]) ((List.replicate i goodO).set ((u64of atz) % 5) bo) ([]) : Int) = 8)) (v := .bool (decide (((mapC (chkB 2 ([]) ((List.replicate i goodO).set ((u64of atz) % 5) bo) ([])) 2 ([]) nn 0 0).length : Nat) = 0))) rfl (decide_eq_true (chk_8 (by rw [(by assumption : bo = _)]; first | exact bad11_0 _ (by rw [List.length_replicate]; omega) | exact bad11_1 _ (by rw [List.length_replicate]; omega) | exact bad11_2 _ (by rw [List.length_replicate]; omega)))) rfl) rfl ?_
        refine s_y (v := .bool (decide (((mapC (chkB 2 ([]) ((List.replicate i goodO).set ((u64of atz) % 5) bo) ([])) 2 ([]) nn 0 0).length : Nat) = 0))) (y_move rfl) rfl ?_
        refine s_gy (y_loadN (vs := [.int .i64 2, .slice none 0 0, .slice a1 ((List.replicate i goodO).length) c1, .slice none 0 0]) rfl Try.isAgg84 Try.sizeOf84 (ownN (.t .h) rfl)) rfl rfl rfl rfl (b' := decide (((mapC (chkB 2 ([]) ((List.replicate i goodO).set ((u64of atz) % 5) bo) ([])) 2 ([]) nn 0 0).length : Nat) = 0)) rfl (decide_eq_true (by rw [mapC_no (by rw [(by assumption : bo = _)]; first | exact bad11_0 _ (by rw [List.length_replicate]; omega) | exact bad11_1 _ (by rw [List.length_replicate]; omega) | exact bad11_2 _ (by rw [List.length_replicate]; omega))]; rfl)) ?_
        refine s_gy (y_move h3_10) rfl rfl rfl rfl (b' := decide (((mapC (chkB 2 ([]) ((List.replicate i goodO).set ((u64of atz) % 5) bo) ([])) 2 ([]) nn 0 0).length : Nat) = 0)) rfl (decide_eq_true (by rw [mapC_no (by rw [(by assumption : bo = _)]; first | exact bad11_0 _ (by rw [List.length_replicate]; omega) | exact bad11_1 _ (by rw [List.length_replicate]; omega) | exact bad11_2 _ (by rw [List.length_replicate]; omega))]; rfl)) ?_
        refine s_gy (y_move h3_10) rfl rfl rfl rfl (b' := decide (((mapC (chkB 2 ([]) ((List.replicate i goodO).set ((u64of atz) % 5) bo) ([])) 2 ([]) nn 0 0).length : Nat) = 0)) rfl (decide_eq_true (by rw [mapC_no (by rw [(by assumption : bo = _)]; first | exact bad11_0 _ (by rw [List.length_replicate]; omega) | exact bad11_1 _ (by rw [List.length_replicate]; omega) | exact bad11_2 _ (by rw [List.length_replicate]; omega))]; rfl)) ?_
        refine s_gy (y_call (args := #[.agg #[.int .i64 2, .slice none 0 0, .slice a1 ((List.replicate i goodO).length) c1, .slice none 0 0], .int .i64 (nn.toInt), .int .i64 (nn.toInt)]) (v := .int .i64 (((doneC (chkB 2 ([]) ((List.replicate i goodO).set ((u64of atz) % 5) bo) ([])) ((List.replicate i goodO).set ((u64of atz) % 5) bo) nn nn)).toInt)) Try.call85 (ev3 rfl rfl rfl) (fun w hs => fold_c 2 none a1 none 0 0 ((List.replicate i goodO).length) c1 0 0 ([]) ((List.replicate i goodO).set ((u64of atz) % 5) bo) ([]) nn nn w (by first | rfl | (simp only [List.length_set]; done) | omega) (Rds.nil _ _) (by omega) (by first | rfl | (simp only [List.length_set]; done) | omega) (oslR (.t (.t .h)) w hs) (by omega) (by first | rfl | (simp only [List.length_set]; done) | omega) (Rds.nil _ _) (by omega))) rfl rfl rfl rfl (b' := decide (((mapC (chkB 2 ([]) ((List.replicate i goodO).set ((u64of atz) % 5) bo) ([])) 2 ([]) nn 0 0).length : Nat) = 0)) rfl (decide_eq_true (by rw [mapC_no (by rw [(by assumption : bo = _)]; first | exact bad11_0 _ (by rw [List.length_replicate]; omega) | exact bad11_1 _ (by rw [List.length_replicate]; omega) | exact bad11_2 _ (by rw [List.length_replicate]; omega))]; rfl)) ?_
        refine s_gy (y_eql (a := ((doneC (chkB 2 ([]) ((List.replicate i goodO).set ((u64of atz) % 5) bo) ([])) ((List.replicate i goodO).set ((u64of atz) % 5) bo) nn nn)).toInt) (b := 0) (c := decide ((doneC (chkB 2 ([]) ((List.replicate i goodO).set ((u64of atz) % 5) bo) ([])) ((List.replicate i goodO).set ((u64of atz) % 5) bo) nn nn) = 0)) rfl rfl (i_eqlL _ 0 (by decide))) rfl rfl rfl rfl (b' := decide (((mapC (chkB 2 ([]) ((List.replicate i goodO).set ((u64of atz) % 5) bo) ([])) 2 ([]) nn 0 0).length : Nat) = 0)) rfl (decide_eq_true (by rw [mapC_no (by rw [(by assumption : bo = _)]; first | exact bad11_0 _ (by rw [List.length_replicate]; omega) | exact bad11_1 _ (by rw [List.length_replicate]; omega) | exact bad11_2 _ (by rw [List.length_replicate]; omega))]; rfl)) ?_
        refine s_y (v := .bool (decide ((doneC (chkB 2 ([]) ((List.replicate i goodO).set ((u64of atz) % 5) bo) ([])) ((List.replicate i goodO).set ((u64of atz) % 5) bo) nn nn) = 0))) (y_pickT (b := decide (((mapC (chkB 2 ([]) ((List.replicate i goodO).set ((u64of atz) % 5) bo) ([])) 2 ([]) nn 0 0).length : Nat) = 0)) (v := .bool (decide ((doneC (chkB 2 ([]) ((List.replicate i goodO).set ((u64of atz) % 5) bo) ([])) ((List.replicate i goodO).set ((u64of atz) % 5) bo) nn nn) = 0))) rfl (decide_eq_true (by rw [mapC_no (by rw [(by assumption : bo = _)]; first | exact bad11_0 _ (by rw [List.length_replicate]; omega) | exact bad11_1 _ (by rw [List.length_replicate]; omega) | exact bad11_2 _ (by rw [List.length_replicate]; omega))]; rfl)) rfl) rfl ?_
        refine s_y (v := .bool (decide ((doneC (chkB 2 ([]) ((List.replicate i goodO).set ((u64of atz) % 5) bo) ([])) ((List.replicate i goodO).set ((u64of atz) % 5) bo) nn nn) = 0))) (y_move rfl) rfl ?_
        refine s_gy (y_loadN (vs := [.int .i64 2, .slice none 0 0, .slice a1 ((List.replicate i goodO).length) c1, .slice none 0 0]) rfl Try.isAgg84 Try.sizeOf84 (ownN (.t .h) rfl)) rfl rfl rfl rfl (b' := decide ((doneC (chkB 2 ([]) ((List.replicate i goodO).set ((u64of atz) % 5) bo) ([])) ((List.replicate i goodO).set ((u64of atz) % 5) bo) nn nn) = 0)) rfl (decide_eq_true (doneC_no (by rw [(by assumption : bo = _)]; first | exact bad11_0 _ (by rw [List.length_replicate]; omega) | exact bad11_1 _ (by rw [List.length_replicate]; omega) | exact bad11_2 _ (by rw [List.length_replicate]; omega)))) ?_
        refine s_gy (y_move h3_10) rfl rfl rfl rfl (b' := decide ((doneC (chkB 2 ([]) ((List.replicate i goodO).set ((u64of atz) % 5) bo) ([])) ((List.replicate i goodO).set ((u64of atz) % 5) bo) nn nn) = 0)) rfl (decide_eq_true (doneC_no (by rw [(by assumption : bo = _)]; first | exact bad11_0 _ (by rw [List.length_replicate]; omega) | exact bad11_1 _ (by rw [List.length_replicate]; omega) | exact bad11_2 _ (by rw [List.length_replicate]; omega)))) ?_
        refine s_gy (y_move h3_10) rfl rfl rfl rfl (b' := decide ((doneC (chkB 2 ([]) ((List.replicate i goodO).set ((u64of atz) % 5) bo) ([])) ((List.replicate i goodO).set ((u64of atz) % 5) bo) nn nn) = 0)) rfl (decide_eq_true (doneC_no (by rw [(by assumption : bo = _)]; first | exact bad11_0 _ (by rw [List.length_replicate]; omega) | exact bad11_1 _ (by rw [List.length_replicate]; omega) | exact bad11_2 _ (by rw [List.length_replicate]; omega)))) ?_
        refine s_gy (y_call (args := #[.agg #[.int .i64 2, .slice none 0 0, .slice a1 ((List.replicate i goodO).length) c1, .slice none 0 0], .int .i64 (nn.toInt), .int .i64 (nn.toInt)]) (v := .int .i64 (((doneC (chkB 2 ([]) ((List.replicate i goodO).set ((u64of atz) % 5) bo) ([])) ([]) nn nn)).toInt)) Try.call89 (ev3 rfl rfl rfl) (fun w hs => finish_c 2 none a1 none 0 0 ((List.replicate i goodO).length) c1 0 0 ([]) ((List.replicate i goodO).set ((u64of atz) % 5) bo) ([]) nn nn w (by first | rfl | (simp only [List.length_set]; done) | omega) (Rds.nil _ _) (by omega) (by first | rfl | (simp only [List.length_set]; done) | omega) (oslR (.t (.t .h)) w hs) (by omega) (by first | rfl | (simp only [List.length_set]; done) | omega) (Rds.nil _ _) (by omega))) rfl rfl rfl rfl (b' := decide ((doneC (chkB 2 ([]) ((List.replicate i goodO).set ((u64of atz) % 5) bo) ([])) ((List.replicate i goodO).set ((u64of atz) % 5) bo) nn nn) = 0)) rfl (decide_eq_true (doneC_no (by rw [(by assumption : bo = _)]; first | exact bad11_0 _ (by rw [List.length_replicate]; omega) | exact bad11_1 _ (by rw [List.length_replicate]; omega) | exact bad11_2 _ (by rw [List.length_replicate]; omega)))) ?_
        refine s_gy (y_eql (a := ((doneC (chkB 2 ([]) ((List.replicate i goodO).set ((u64of atz) % 5) bo) ([])) ([]) nn nn)).toInt) (b := 0) (c := decide ((doneC (chkB 2 ([]) ((List.replicate i goodO).set ((u64of atz) % 5) bo) ([])) ([]) nn nn) = 0)) rfl rfl (i_eqlL _ 0 (by decide))) rfl rfl rfl rfl (b' := decide ((doneC (chkB 2 ([]) ((List.replicate i goodO).set ((u64of atz) % 5) bo) ([])) ((List.replicate i goodO).set ((u64of atz) % 5) bo) nn nn) = 0)) rfl (decide_eq_true (doneC_no (by rw [(by assumption : bo = _)]; first | exact bad11_0 _ (by rw [List.length_replicate]; omega) | exact bad11_1 _ (by rw [List.length_replicate]; omega) | exact bad11_2 _ (by rw [List.length_replicate]; omega)))) ?_
        refine s_y (v := .bool (decide ((doneC (chkB 2 ([]) ((List.replicate i goodO).set ((u64of atz) % 5) bo) ([])) ([]) nn nn) = 0))) (y_pickT (b := decide ((doneC (chkB 2 ([]) ((List.replicate i goodO).set ((u64of atz) % 5) bo) ([])) ((List.replicate i goodO).set ((u64of atz) % 5) bo) nn nn) = 0)) (v := .bool (decide ((doneC (chkB 2 ([]) ((List.replicate i goodO).set ((u64of atz) % 5) bo) ([])) ([]) nn nn) = 0))) rfl (decide_eq_true (doneC_no (by rw [(by assumption : bo = _)]; first | exact bad11_0 _ (by rw [List.length_replicate]; omega) | exact bad11_1 _ (by rw [List.length_replicate]; omega) | exact bad11_2 _ (by rw [List.length_replicate]; omega)))) rfl) rfl ?_
        refine s_y (v := .bool (decide ((doneC (chkB 2 ([]) ((List.replicate i goodO).set ((u64of atz) % 5) bo) ([])) ([]) nn nn) = 0))) (y_assign rfl) rfl ?_
        refine wpL_nil ?_
        refine thenS_n ?_
        refine wpS_ret ?_
        refine fin1 (v := .bool (decide ((doneC (chkB 2 ([]) ((List.replicate i goodO).set ((u64of atz) % 5) bo) ([])) ([]) nn nn) = 0))) (.inr rfl) (.nil) Try.results23 rfl ?_
        exact fun w' hs => ⟨congrArg (fun b => Ending.returned (Value.bool b)) (show (decide ((doneC (chkB 2 ([]) ((List.replicate i goodO).set ((u64of atz) % 5) bo) ([])) ([]) nn nn) = 0)) = true from (decide_eq_true (doneC_no (by rw [(by assumption : bo = _)]; first | exact bad11_0 _ (by rw [List.length_replicate]; omega) | exact bad11_1 _ (by rw [List.length_replicate]; omega) | exact bad11_2 _ (by rw [List.length_replicate]; omega))))), hs⟩
      · -- decide ((((u64of part) % 3) : Nat) = 1) false
        have p21 := of_decide_eq_false b21
        refine wpS_region ?_
        refine s_y (v := .slice a1 ((List.replicate i goodO).length) c1) (y_move h11_10) rfl ?_
        refine s_y (v := .pointer (some ⟨b_15, 3, none⟩)) (y_fieldAddr (o' := 3) rfl Try.underlying84 rfl Try.sizeOf82 (by decide) rfl) rfl ?_
        refine s_e0 ?_
        refine e_store (vs := [.slice a1 ((List.replicate i goodO).length) c1]) (l' := [.int .i64 2, .slice none 0 0, .slice none 0 0, .slice a1 ((List.replicate i goodO).length) c1]) rfl rfl rfl rfl Try.sizeOf82 .h (Nat.le_of_ble_eq_true rfl) rfl ?_
        refine wpL_nil ?_
        refine blockS_n ?_
        refine thenS_n ?_
        refine wpS_seq ?_
        refine wpS_region ?_
        refine s_y (v := .bool true) (y_call (args := #[]) (v := .bool true) Try.call82 ev0 (fun w hs => awake11_c w)) rfl ?_
        refine s_y (v := .bool true) (y_move rfl) rfl ?_
        refine s_gy (y_loadN (vs := [.int .i64 2, .slice none 0 0, .slice none 0 0, .slice a1 ((List.replicate i goodO).length) c1]) rfl Try.isAgg84 Try.sizeOf84 (ownN .h rfl)) rfl rfl rfl rfl rfl rfl ?_
        refine s_gy (y_call (args := #[.agg #[.int .i64 2, .slice none 0 0, .slice none 0 0, .slice a1 ((List.replicate i goodO).length) c1]]) (v := .int .i64 (chk11 2 ([]) ([]) ((List.replicate i goodO).set ((u64of atz) % 5) bo))) Try.call84 (ev1 rfl) (fun w hs => check_c 2 none none a1 0 0 0 0 ((List.replicate i goodO).length) c1 ([]) ([]) ((List.replicate i goodO).set ((u64of atz) % 5) bo) w (by first | rfl | (simp only [List.length_set]; done) | omega) (Rds.nil _ _) (by omega) (by first | rfl | (simp only [List.length_set]; done) | omega) (Rds.nil _ _) (by omega) (by first | rfl | (simp only [List.length_set]; done) | omega) (oslR (.t .h) w hs) (by omega))) rfl rfl rfl rfl rfl rfl ?_
        refine s_gy (y_eql (a := chk11 2 ([]) ([]) ((List.replicate i goodO).set ((u64of atz) % 5) bo)) (b := 8) rfl rfl rfl) rfl rfl rfl rfl rfl rfl ?_
        refine s_y (v := .bool (decide ((chk11 2 ([]) ([]) ((List.replicate i goodO).set ((u64of atz) % 5) bo) : Int) = 8))) (y_pickT (v := .bool (decide ((chk11 2 ([]) ([]) ((List.replicate i goodO).set ((u64of atz) % 5) bo) : Int) = 8))) rfl rfl rfl) rfl ?_
        refine s_y (v := .bool (decide ((chk11 2 ([]) ([]) ((List.replicate i goodO).set ((u64of atz) % 5) bo) : Int) = 8))) (y_move rfl) rfl ?_
        refine s_gy (y_loadN (vs := [.int .i64 2, .slice none 0 0, .slice none 0 0, .slice a1 ((List.replicate i goodO).length) c1]) rfl Try.isAgg84 Try.sizeOf84 (ownN .h rfl)) rfl rfl rfl rfl (b' := decide ((chk11 2 ([]) ([]) ((List.replicate i goodO).set ((u64of atz) % 5) bo) : Int) = 8)) rfl (decide_eq_true (chk_8 (by rw [(by assumption : bo = _)]; first | exact bad11_0 _ (by rw [List.length_replicate]; omega) | exact bad11_1 _ (by rw [List.length_replicate]; omega) | exact bad11_2 _ (by rw [List.length_replicate]; omega)))) ?_
        refine s_gy (y_move h3_10) rfl rfl rfl rfl (b' := decide ((chk11 2 ([]) ([]) ((List.replicate i goodO).set ((u64of atz) % 5) bo) : Int) = 8)) rfl (decide_eq_true (chk_8 (by rw [(by assumption : bo = _)]; first | exact bad11_0 _ (by rw [List.length_replicate]; omega) | exact bad11_1 _ (by rw [List.length_replicate]; omega) | exact bad11_2 _ (by rw [List.length_replicate]; omega)))) ?_
        refine s_gy (y_buildL (m := []) (vs := #[.int .i64 0, .int .i64 0]) evn (fun w => by kernel_rfl)) rfl rfl rfl rfl (b' := decide ((chk11 2 ([]) ([]) ((List.replicate i goodO).set ((u64of atz) % 5) bo) : Int) = 8)) rfl (decide_eq_true (chk_8 (by rw [(by assumption : bo = _)]; first | exact bad11_0 _ (by rw [List.length_replicate]; omega) | exact bad11_1 _ (by rw [List.length_replicate]; omega) | exact bad11_2 _ (by rw [List.length_replicate]; omega)))) ?_
        refine s_ge rfl rfl rfl rfl (b' := decide ((chk11 2 ([]) ([]) ((List.replicate i goodO).set ((u64of atz) % 5) bo) : Int) = 8)) rfl (decide_eq_true (chk_8 (by rw [(by assumption : bo = _)]; first | exact bad11_0 _ (by rw [List.length_replicate]; omega) | exact bad11_1 _ (by rw [List.length_replicate]; omega) | exact bad11_2 _ (by rw [List.length_replicate]; omega)))) ?_
        refine e_call (f := 83) (args := #[.agg #[.int .i64 2, .slice none 0 0, .slice none 0 0, .slice a1 ((List.replicate i goodO).length) c1], .int .i64 (nn.toInt), .agg #[.int .i64 0, .int .i64 0]]) (X := Option Addr × Nat) (A := []) (M := [cel b_15 84 [.int .i64 2, .slice none 0 0, .slice none 0 0, .slice a1 ((List.replicate i goodO).length) c1], osl a1 c1 ((List.replicate i goodO).length) 6 86 (((List.replicate i goodO).set ((u64of atz) % 5) bo).flatMap opcV), cel b_2 86 [.int .i64 (bo.o0), .int .i64 (bo.o1), .int .i64 (bo.o2), .int .i64 (bo.o3), .int .i64 (bo.o4), .int .i64 (bo.o5.toInt)], cel b_1 86 [.int .i64 2, .int .i64 1, .int .i64 2, .int .i64 3, .int .i64 4, .int .i64 0]]) (V := slV (mapC (chkB 2 ([]) ([]) ((List.replicate i goodO).set ((u64of atz) % 5) bo)) 2 ([]) nn 0 0)) (A' := fun x => [slR recV 4 23 (mapC (chkB 2 ([]) ([]) ((List.replicate i goodO).set ((u64of atz) % 5) bo)) 2 ([]) nn 0 0) x]) (C := fun _ => True) Try.call83 (ev3 rfl rfl rfl) (.p .h (.p .h (.p .h (.p .h .nil)))) (fun w hs => map_c 2 none none a1 0 0 0 0 ((List.replicate i goodO).length) c1 ([]) ([]) ((List.replicate i goodO).set ((u64of atz) % 5) bo) nn 0 0 w (by first | rfl | (simp only [List.length_set]; done) | omega) (Rds.nil _ _) (by omega) (by first | rfl | (simp only [List.length_set]; done) | omega) (Rds.nil _ _) (by omega) (by first | rfl | (simp only [List.length_set]; done) | omega) (oslR (.t .h) w hs) (by omega)) ?_
        rintro ⟨a_26, c_27⟩ -
        have hml29 : (mapC (chkB 2 ([]) ([]) ((List.replicate i goodO).set ((u64of atz) % 5) bo)) 2 ([]) nn 0 0).length ≤ 4 := mapC_len
        refine s_gy (y_len (ty' := 0) (at_ := #[]) rfl Try.underlying69) rfl rfl rfl rfl (b' := decide ((chk11 2 ([]) ([]) ((List.replicate i goodO).set ((u64of atz) % 5) bo) : Int) = 8)) rfl (decide_eq_true (chk_8 (by rw [(by assumption : bo = _)]; first | exact bad11_0 _ (by rw [List.length_replicate]; omega) | exact bad11_1 _ (by rw [List.length_replicate]; omega) | exact bad11_2 _ (by rw [List.length_replicate]; omega)))) ?_
        refine s_gy (y_eql (a := (((mapC (chkB 2 ([]) ([]) ((List.replicate i goodO).set ((u64of atz) % 5) bo)) 2 ([]) nn 0 0).length : Nat) : Int)) (b := 0) (c := decide (((mapC (chkB 2 ([]) ([]) ((List.replicate i goodO).set ((u64of atz) % 5) bo)) 2 ([]) nn 0 0).length : Nat) = 0)) rfl rfl (decide_eq_decide.2 (by omega))) rfl rfl rfl rfl (b' := decide ((chk11 2 ([]) ([]) ((List.replicate i goodO).set ((u64of atz) % 5) bo) : Int) = 8)) rfl (decide_eq_true (chk_8 (by rw [(by assumption : bo = _)]; first | exact bad11_0 _ (by rw [List.length_replicate]; omega) | exact bad11_1 _ (by rw [List.length_replicate]; omega) | exact bad11_2 _ (by rw [List.length_replicate]; omega)))) ?_
        refine s_y (v := .bool (decide (((mapC (chkB 2 ([]) ([]) ((List.replicate i goodO).set ((u64of atz) % 5) bo)) 2 ([]) nn 0 0).length : Nat) = 0))) (y_pickT (b := decide ((chk11 2 ([]) ([]) ((List.replicate i goodO).set ((u64of atz) % 5) bo) : Int) = 8)) (v := .bool (decide (((mapC (chkB 2 ([]) ([]) ((List.replicate i goodO).set ((u64of atz) % 5) bo)) 2 ([]) nn 0 0).length : Nat) = 0))) rfl (decide_eq_true (chk_8 (by rw [(by assumption : bo = _)]; first | exact bad11_0 _ (by rw [List.length_replicate]; omega) | exact bad11_1 _ (by rw [List.length_replicate]; omega) | exact bad11_2 _ (by rw [List.length_replicate]; omega)))) rfl) rfl ?_
        refine s_y (v := .bool (decide (((mapC (chkB 2 ([]) ([]) ((List.replicate i goodO).set ((u64of atz) % 5) bo)) 2 ([]) nn 0 0).length : Nat) = 0))) (y_move rfl) rfl ?_
        refine s_gy (y_loadN (vs := [.int .i64 2, .slice none 0 0, .slice none 0 0, .slice a1 ((List.replicate i goodO).length) c1]) rfl Try.isAgg84 Try.sizeOf84 (ownN (.t .h) rfl)) rfl rfl rfl rfl (b' := decide (((mapC (chkB 2 ([]) ([]) ((List.replicate i goodO).set ((u64of atz) % 5) bo)) 2 ([]) nn 0 0).length : Nat) = 0)) rfl (decide_eq_true (by rw [mapC_no (by rw [(by assumption : bo = _)]; first | exact bad11_0 _ (by rw [List.length_replicate]; omega) | exact bad11_1 _ (by rw [List.length_replicate]; omega) | exact bad11_2 _ (by rw [List.length_replicate]; omega))]; rfl)) ?_
        refine s_gy (y_move h3_10) rfl rfl rfl rfl (b' := decide (((mapC (chkB 2 ([]) ([]) ((List.replicate i goodO).set ((u64of atz) % 5) bo)) 2 ([]) nn 0 0).length : Nat) = 0)) rfl (decide_eq_true (by rw [mapC_no (by rw [(by assumption : bo = _)]; first | exact bad11_0 _ (by rw [List.length_replicate]; omega) | exact bad11_1 _ (by rw [List.length_replicate]; omega) | exact bad11_2 _ (by rw [List.length_replicate]; omega))]; rfl)) ?_
        refine s_gy (y_move h3_10) rfl rfl rfl rfl (b' := decide (((mapC (chkB 2 ([]) ([]) ((List.replicate i goodO).set ((u64of atz) % 5) bo)) 2 ([]) nn 0 0).length : Nat) = 0)) rfl (decide_eq_true (by rw [mapC_no (by rw [(by assumption : bo = _)]; first | exact bad11_0 _ (by rw [List.length_replicate]; omega) | exact bad11_1 _ (by rw [List.length_replicate]; omega) | exact bad11_2 _ (by rw [List.length_replicate]; omega))]; rfl)) ?_
        refine s_gy (y_call (args := #[.agg #[.int .i64 2, .slice none 0 0, .slice none 0 0, .slice a1 ((List.replicate i goodO).length) c1], .int .i64 (nn.toInt), .int .i64 (nn.toInt)]) (v := .int .i64 (((doneC (chkB 2 ([]) ([]) ((List.replicate i goodO).set ((u64of atz) % 5) bo)) ([]) nn nn)).toInt)) Try.call85 (ev3 rfl rfl rfl) (fun w hs => fold_c 2 none none a1 0 0 0 0 ((List.replicate i goodO).length) c1 ([]) ([]) ((List.replicate i goodO).set ((u64of atz) % 5) bo) nn nn w (by first | rfl | (simp only [List.length_set]; done) | omega) (Rds.nil _ _) (by omega) (by first | rfl | (simp only [List.length_set]; done) | omega) (Rds.nil _ _) (by omega) (by first | rfl | (simp only [List.length_set]; done) | omega) (oslR (.t (.t .h)) w hs) (by omega))) rfl rfl rfl rfl (b' := decide (((mapC (chkB 2 ([]) ([]) ((List.replicate i goodO).set ((u64of atz) % 5) bo)) 2 ([]) nn 0 0).length : Nat) = 0)) rfl (decide_eq_true (by rw [mapC_no (by rw [(by assumption : bo = _)]; first | exact bad11_0 _ (by rw [List.length_replicate]; omega) | exact bad11_1 _ (by rw [List.length_replicate]; omega) | exact bad11_2 _ (by rw [List.length_replicate]; omega))]; rfl)) ?_
        refine s_gy (y_eql (a := ((doneC (chkB 2 ([]) ([]) ((List.replicate i goodO).set ((u64of atz) % 5) bo)) ([]) nn nn)).toInt) (b := 0) (c := decide ((doneC (chkB 2 ([]) ([]) ((List.replicate i goodO).set ((u64of atz) % 5) bo)) ([]) nn nn) = 0)) rfl rfl (i_eqlL _ 0 (by decide))) rfl rfl rfl rfl (b' := decide (((mapC (chkB 2 ([]) ([]) ((List.replicate i goodO).set ((u64of atz) % 5) bo)) 2 ([]) nn 0 0).length : Nat) = 0)) rfl (decide_eq_true (by rw [mapC_no (by rw [(by assumption : bo = _)]; first | exact bad11_0 _ (by rw [List.length_replicate]; omega) | exact bad11_1 _ (by rw [List.length_replicate]; omega) | exact bad11_2 _ (by rw [List.length_replicate]; omega))]; rfl)) ?_
        refine s_y (v := .bool (decide ((doneC (chkB 2 ([]) ([]) ((List.replicate i goodO).set ((u64of atz) % 5) bo)) ([]) nn nn) = 0))) (y_pickT (b := decide (((mapC (chkB 2 ([]) ([]) ((List.replicate i goodO).set ((u64of atz) % 5) bo)) 2 ([]) nn 0 0).length : Nat) = 0)) (v := .bool (decide ((doneC (chkB 2 ([]) ([]) ((List.replicate i goodO).set ((u64of atz) % 5) bo)) ([]) nn nn) = 0))) rfl (decide_eq_true (by rw [mapC_no (by rw [(by assumption : bo = _)]; first | exact bad11_0 _ (by rw [List.length_replicate]; omega) | exact bad11_1 _ (by rw [List.length_replicate]; omega) | exact bad11_2 _ (by rw [List.length_replicate]; omega))]; rfl)) rfl) rfl ?_
        refine s_y (v := .bool (decide ((doneC (chkB 2 ([]) ([]) ((List.replicate i goodO).set ((u64of atz) % 5) bo)) ([]) nn nn) = 0))) (y_move rfl) rfl ?_
        refine s_gy (y_loadN (vs := [.int .i64 2, .slice none 0 0, .slice none 0 0, .slice a1 ((List.replicate i goodO).length) c1]) rfl Try.isAgg84 Try.sizeOf84 (ownN (.t .h) rfl)) rfl rfl rfl rfl (b' := decide ((doneC (chkB 2 ([]) ([]) ((List.replicate i goodO).set ((u64of atz) % 5) bo)) ([]) nn nn) = 0)) rfl (decide_eq_true (doneC_no (by rw [(by assumption : bo = _)]; first | exact bad11_0 _ (by rw [List.length_replicate]; omega) | exact bad11_1 _ (by rw [List.length_replicate]; omega) | exact bad11_2 _ (by rw [List.length_replicate]; omega)))) ?_
        refine s_gy (y_move h3_10) rfl rfl rfl rfl (b' := decide ((doneC (chkB 2 ([]) ([]) ((List.replicate i goodO).set ((u64of atz) % 5) bo)) ([]) nn nn) = 0)) rfl (decide_eq_true (doneC_no (by rw [(by assumption : bo = _)]; first | exact bad11_0 _ (by rw [List.length_replicate]; omega) | exact bad11_1 _ (by rw [List.length_replicate]; omega) | exact bad11_2 _ (by rw [List.length_replicate]; omega)))) ?_
        refine s_gy (y_move h3_10) rfl rfl rfl rfl (b' := decide ((doneC (chkB 2 ([]) ([]) ((List.replicate i goodO).set ((u64of atz) % 5) bo)) ([]) nn nn) = 0)) rfl (decide_eq_true (doneC_no (by rw [(by assumption : bo = _)]; first | exact bad11_0 _ (by rw [List.length_replicate]; omega) | exact bad11_1 _ (by rw [List.length_replicate]; omega) | exact bad11_2 _ (by rw [List.length_replicate]; omega)))) ?_
        refine s_gy (y_call (args := #[.agg #[.int .i64 2, .slice none 0 0, .slice none 0 0, .slice a1 ((List.replicate i goodO).length) c1], .int .i64 (nn.toInt), .int .i64 (nn.toInt)]) (v := .int .i64 (((doneC (chkB 2 ([]) ([]) ((List.replicate i goodO).set ((u64of atz) % 5) bo)) ((List.replicate i goodO).set ((u64of atz) % 5) bo) nn nn)).toInt)) Try.call89 (ev3 rfl rfl rfl) (fun w hs => finish_c 2 none none a1 0 0 0 0 ((List.replicate i goodO).length) c1 ([]) ([]) ((List.replicate i goodO).set ((u64of atz) % 5) bo) nn nn w (by first | rfl | (simp only [List.length_set]; done) | omega) (Rds.nil _ _) (by omega) (by first | rfl | (simp only [List.length_set]; done) | omega) (Rds.nil _ _) (by omega) (by first | rfl | (simp only [List.length_set]; done) | omega) (oslR (.t (.t .h)) w hs) (by omega))) rfl rfl rfl rfl (b' := decide ((doneC (chkB 2 ([]) ([]) ((List.replicate i goodO).set ((u64of atz) % 5) bo)) ([]) nn nn) = 0)) rfl (decide_eq_true (doneC_no (by rw [(by assumption : bo = _)]; first | exact bad11_0 _ (by rw [List.length_replicate]; omega) | exact bad11_1 _ (by rw [List.length_replicate]; omega) | exact bad11_2 _ (by rw [List.length_replicate]; omega)))) ?_
        refine s_gy (y_eql (a := ((doneC (chkB 2 ([]) ([]) ((List.replicate i goodO).set ((u64of atz) % 5) bo)) ((List.replicate i goodO).set ((u64of atz) % 5) bo) nn nn)).toInt) (b := 0) (c := decide ((doneC (chkB 2 ([]) ([]) ((List.replicate i goodO).set ((u64of atz) % 5) bo)) ((List.replicate i goodO).set ((u64of atz) % 5) bo) nn nn) = 0)) rfl rfl (i_eqlL _ 0 (by decide))) rfl rfl rfl rfl (b' := decide ((doneC (chkB 2 ([]) ([]) ((List.replicate i goodO).set ((u64of atz) % 5) bo)) ([]) nn nn) = 0)) rfl (decide_eq_true (doneC_no (by rw [(by assumption : bo = _)]; first | exact bad11_0 _ (by rw [List.length_replicate]; omega) | exact bad11_1 _ (by rw [List.length_replicate]; omega) | exact bad11_2 _ (by rw [List.length_replicate]; omega)))) ?_
        refine s_y (v := .bool (decide ((doneC (chkB 2 ([]) ([]) ((List.replicate i goodO).set ((u64of atz) % 5) bo)) ((List.replicate i goodO).set ((u64of atz) % 5) bo) nn nn) = 0))) (y_pickT (b := decide ((doneC (chkB 2 ([]) ([]) ((List.replicate i goodO).set ((u64of atz) % 5) bo)) ([]) nn nn) = 0)) (v := .bool (decide ((doneC (chkB 2 ([]) ([]) ((List.replicate i goodO).set ((u64of atz) % 5) bo)) ((List.replicate i goodO).set ((u64of atz) % 5) bo) nn nn) = 0))) rfl (decide_eq_true (doneC_no (by rw [(by assumption : bo = _)]; first | exact bad11_0 _ (by rw [List.length_replicate]; omega) | exact bad11_1 _ (by rw [List.length_replicate]; omega) | exact bad11_2 _ (by rw [List.length_replicate]; omega)))) rfl) rfl ?_
        refine s_y (v := .bool (decide ((doneC (chkB 2 ([]) ([]) ((List.replicate i goodO).set ((u64of atz) % 5) bo)) ((List.replicate i goodO).set ((u64of atz) % 5) bo) nn nn) = 0))) (y_assign rfl) rfl ?_
        refine wpL_nil ?_
        refine thenS_n ?_
        refine wpS_ret ?_
        refine fin1 (v := .bool (decide ((doneC (chkB 2 ([]) ([]) ((List.replicate i goodO).set ((u64of atz) % 5) bo)) ((List.replicate i goodO).set ((u64of atz) % 5) bo) nn nn) = 0))) (.inr rfl) (.nil) Try.results23 rfl ?_
        exact fun w' hs => ⟨congrArg (fun b => Ending.returned (Value.bool b)) (show (decide ((doneC (chkB 2 ([]) ([]) ((List.replicate i goodO).set ((u64of atz) % 5) bo)) ((List.replicate i goodO).set ((u64of atz) % 5) bo) nn nn) = 0)) = true from (decide_eq_true (doneC_no (by rw [(by assumption : bo = _)]; first | exact bad11_0 _ (by rw [List.length_replicate]; omega) | exact bad11_1 _ (by rw [List.length_replicate]; omega) | exact bad11_2 _ (by rw [List.length_replicate]; omega))))), hs⟩

theorem lines_vm (code : Int) (code1 : -9223372036854775808 ≤ code) (code2 : code < 9223372036854775808) (c v : Int64) (idle : Bool) (w : World) : Pure Try.prog 20 #[.int .i64 code, .int .i64 (c.toInt), .int .i64 (v.toInt), .bool idle] w (.bool true) := by
  refine calls_S (n := 56) (σ0 := (upd (upd (upd (upd fr0 0 (.int .i64 code)) 1 (.int .i64 (c.toInt))) 2 (.int .i64 (v.toInt))) 3 (.bool idle))) (D := []) (A := []) Try.func20 rfl Try.ntmps20 rfl (a4_fr _ _ _ _) (SH.start w) ?_
  refine wpS_seq ?_
  refine wpS_region ?_
  refine s_y (v := .bool false) (y_assign rfl) rfl ?_
  refine wpL_nil ?_
  refine thenS_n ?_
  refine wpS_seq ?_
  refine wpS_region ?_
  refine s_y (v := .int .i64 code) (y_move rfl) rfl ?_
  refine s_y (v := .int .u64 ((((u64of code) : Nat) : Int))) (y_convI (a := code) (c := (((u64of code) : Nat) : Int)) rfl Try.underlying3 Try.underlying46 (u64of_wrap _)) rfl ?_
  refine s_y (v := .int .u64 (((((u64of code) % 19) : Nat) : Int))) (y_rem (a := (((u64of code) : Nat) : Int)) (b := 19) (c := ((((u64of code) % 19) : Nat) : Int)) rfl rfl (by omega) (n_rem _ 19 (by omega))) rfl ?_
  refine s_y (v := .int .i64 (((((u64of code) % 19) : Nat) : Int))) (y_convI (a := ((((u64of code) % 19) : Nat) : Int)) (c := ((((u64of code) % 19) : Nat) : Int)) rfl Try.underlying46 Try.underlying3 (wI rfl (by omega) (by omega))) rfl ?_
  refine s_y (v := .int .i64 (((((u64of code) % 19) : Nat) : Int))) (y_assign rfl) rfl ?_
  refine wpL_nil ?_
  refine thenS_n ?_
  refine wpS_seq ?_
  refine wpS_region ?_
  refine s_y (v := .int .i64 (c.toInt)) (y_move rfl) rfl ?_
  refine s_y (v := .agg #[.int .i64 1, .int .i64 2, .int .i64 0, .int .i64 0, .int .i64 0, .int .i64 (c.toInt)]) (y_buildL (m := [(0, .int .i64 1), (1, .int .i64 2), (5, .int .i64 (c.toInt))]) (vs := #[.int .i64 1, .int .i64 2, .int .i64 0, .int .i64 0, .int .i64 0, .int .i64 (c.toInt)]) (evc rfl (evc rfl (evc rfl evn))) (fun w => by kernel_rfl)) rfl ?_
  refine s_e rfl ?_
  refine e_bsliceL (e := 86) (m := [(0, .agg #[.int .i64 1, .int .i64 2, .int .i64 0, .int .i64 0, .int .i64 0, .int .i64 (c.toInt)])]) (l := [.int .i64 1, .int .i64 2, .int .i64 0, .int .i64 0, .int .i64 0, .int .i64 (c.toInt)]) (evc rfl evn) (fun w => by kernel_rfl) ?_
  intro b_1
  refine s_y (v := .agg #[.int .i64 1, .slice none 0 0, .slice (some ⟨b_1, 0, none⟩) 1 1, .slice none 0 0]) (y_buildL (m := [(0, .int .i64 1), (2, .slice (some ⟨b_1, 0, none⟩) 1 1)]) (vs := #[.int .i64 1, .slice none 0 0, .slice (some ⟨b_1, 0, none⟩) 1 1, .slice none 0 0]) (evc rfl (evc rfl evn)) (fun w => by kernel_rfl)) rfl ?_
  refine s_e rfl ?_
  refine e_alloc (l := [.int .i64 0, .slice none 0 0, .slice none 0 0, .slice none 0 0]) Try.zeroValue84 rfl ?_
  intro b_2
  refine s_e0 ?_
  refine e_store (vs := [.int .i64 1, .slice none 0 0, .slice (some ⟨b_1, 0, none⟩) 1 1, .slice none 0 0]) (l' := [.int .i64 1, .slice none 0 0, .slice (some ⟨b_1, 0, none⟩) 1 1, .slice none 0 0]) rfl rfl rfl rfl Try.sizeOf84 .h (Nat.le_of_ble_eq_true rfl) rfl ?_
  refine wpL_nil ?_
  refine thenS_n ?_
  refine wpS_seq ?_
  refine wpS_region ?_
  refine s_y (v := .int .i64 (v.toInt)) (y_move rfl) rfl ?_
  refine s_y (v := .int .i64 (v.toInt)) (y_assign rfl) rfl ?_
  refine wpL_nil ?_
  refine thenS_n ?_
  refine wpS_seq ?_
  refine wpS_seq ?_
  refine wpS_region ?_
  refine s_y (v := .int .i64 0) (y_assign rfl) rfl ?_
  refine wpL_nil ?_
  refine thenS_n ?_
  refine wpS_block ?_
  refine wpS_sh (SH.celO (n := 1) (sz := 6) (.t .h) rfl (by decide)) ?_
  refine wpS_loop (fun mez ds σ L => ∃ i : Nat, ∃ ys : List Opc, ∃ a1 : Option Addr, ∃ c1 : Nat, mez = (u64of code % 19) - i ∧ (i ≤ (u64of code % 19)) ∧ (ys.length ≤ 1 + 2 * i) ∧ (ys = lineL c idle i) ∧ ds = [] ∧ σ 0 = .int .i64 (((((u64of code) % 19) : Nat) : Int)) ∧ σ 1 = .int .i64 (c.toInt) ∧ σ 2 = .int .i64 (v.toInt) ∧ σ 3 = .bool idle ∧ σ 9 = .pointer (some ⟨b_2, 0, none⟩) ∧ σ 10 = .int .i64 (((lineW v c i)).toInt) ∧ σ 11 = .int .i64 (((i : Nat) : Int)) ∧ Ent L [osl a1 c1 ys.length 6 86 (ys.flatMap opcV), cel b_2 84 [.int .i64 1, .slice none 0 0, .slice a1 ys.length c1, .slice none 0 0]]) (m0 := (u64of code % 19) - 0) ⟨0, ([(Opc.mk 1 2 0 0 0 c)] : List Opc), some ⟨b_1, 0, none⟩, 1, rfl, by omega, by simp, rfl, rfl, rfl, rfl, rfl, rfl, rfl, rfl, rfl, .p .h (.p .h .nil)⟩ ?_
  rintro mez ds σ L ⟨i, ys, a1, c1, hm_3, hf0_3, hf1_3, hf2_3, rfl, h0_3, h1_3, h2_3, h3_3, h9_3, h10_3, h11_3, hE_3⟩
  refine wpS_ent hE_3 ?_; clear hE_3
  refine wpS_seq ?_
  refine wpS_seq ?_
  refine wpS_region ?_
  refine s_y (v := .int .i64 (((i : Nat) : Int))) (y_move h11_3) rfl ?_
  refine s_y (v := .int .i64 (((((u64of code) % 19) : Nat) : Int))) (y_move h0_3) rfl ?_
  refine s_y (v := .bool (decide (i < ((u64of code) % 19)))) (y_lss (a := ((i : Nat) : Int)) (b := ((((u64of code) % 19) : Nat) : Int)) (c := decide (i < ((u64of code) % 19))) rfl rfl (decide_eq_decide.2 (by omega))) rfl ?_
  refine wpL_nil ?_
  refine thenS_n ?_
  refine wpS_cond (t := decide (i < ((u64of code) % 19))) rfl (fun b4 => ?_) (fun b4 => ?_)
  · -- decide (i < ((u64of code) % 19)) true
    have p4 := of_decide_eq_true b4
    refine wpS_skip ?_
    refine thenS_n ?_
    refine wpS_seq ?_
    refine wpS_block ?_
    refine wpS_seq ?_
    refine wpS_region ?_
    refine s_y (v := .pointer (some ⟨b_2, 2, none⟩)) (y_fieldAddr (o' := 2) h9_3 Try.underlying84 rfl Try.sizeOf82 (by decide) rfl) rfl ?_
    refine s_y (v := .slice a1 ys.length c1) (y_load1 rfl Try.isAgg82 (own1 (.t .h) rfl)) rfl ?_
    refine s_y (v := .agg #[.int .i64 2, .int .i64 0, .int .i64 0, .int .i64 2, .int .i64 0, .int .i64 0]) (y_buildL (m := [(0, .int .i64 2), (2, .int .i64 0), (3, .int .i64 2)]) (vs := #[.int .i64 2, .int .i64 0, .int .i64 0, .int .i64 2, .int .i64 0, .int .i64 0]) (evc rfl (evc rfl (evc rfl evn))) (fun w => by kernel_rfl)) rfl ?_
    refine s_e rfl ?_
    refine e_bsliceL (e := 86) (m := [(0, .agg #[.int .i64 2, .int .i64 0, .int .i64 0, .int .i64 2, .int .i64 0, .int .i64 0])]) (l := [.int .i64 2, .int .i64 0, .int .i64 0, .int .i64 2, .int .i64 0, .int .i64 0]) (evc rfl evn) (fun w => by kernel_rfl) ?_
    intro b_5
    refine s_e rfl ?_
    refine e_appendL (enc := opcV) (xs := (ys : List Opc)) (ns := ([(Opc.mk 2 0 0 2 0 0)] : List Opc)) (zs := (ys ++ [(Opc.mk 2 0 0 2 0 0)])) (bytes := 48) opcV_len opcV_one Try.underlying82 (i := Try.t86) rfl rfl rfl rfl rfl (by decide) rfl rfl (by first | rfl | omega) (by first | rfl | omega) (.t .h) (fun w hs => celR .h w hs) (by first | rfl | simp) (by (try simp only [List.length_append, List.length_cons, List.length_nil] at *); omega) (by (try simp only [List.length_append, List.length_cons, List.length_nil] at *); omega) ?_
    intro a_6 c_7
    refine s_y (v := .pointer (some ⟨b_2, 2, none⟩)) (y_fieldAddr (o' := 2) h9_3 Try.underlying84 rfl Try.sizeOf82 (by decide) rfl) rfl ?_
    refine s_e0 ?_
    refine e_store (vs := [.slice a_6 ((ys ++ [(Opc.mk 2 0 0 2 0 0)]).length) c_7]) (l' := [.int .i64 1, .slice none 0 0, .slice a_6 ((ys ++ [(Opc.mk 2 0 0 2 0 0)]).length) c_7, .slice none 0 0]) rfl rfl rfl rfl Try.sizeOf82 (.t (.t .h)) (Nat.le_of_ble_eq_true rfl) rfl ?_
    refine wpL_nil ?_
    refine thenS_n ?_
    refine wpS_seq ?_
    refine wpS_seq ?_
    refine wpS_region ?_
    refine s_y (v := .bool idle) (y_move h3_3) rfl ?_
    refine wpL_nil ?_
    refine thenS_n ?_
    refine wpS_cond (t := idle) rfl (fun b8 => ?_) (fun b8 => ?_)
    · -- idle true
      refine wpS_region ?_
      refine s_y (v := .pointer (some ⟨b_2, 2, none⟩)) (y_fieldAddr (o' := 2) h9_3 Try.underlying84 rfl Try.sizeOf82 (by decide) rfl) rfl ?_
      refine s_y (v := .slice a_6 ((ys ++ [(Opc.mk 2 0 0 2 0 0)]).length) c_7) (y_load1 rfl Try.isAgg82 (own1 .h rfl)) rfl ?_
      refine s_y (v := .agg #[.int .i64 4, .int .i64 7, .int .i64 0, .int .i64 2, .int .i64 0, .int .i64 0]) (y_buildL (m := [(0, .int .i64 4), (1, .int .i64 7), (2, .int .i64 0), (3, .int .i64 2)]) (vs := #[.int .i64 4, .int .i64 7, .int .i64 0, .int .i64 2, .int .i64 0, .int .i64 0]) (evc rfl (evc rfl (evc rfl (evc rfl evn)))) (fun w => by kernel_rfl)) rfl ?_
      refine s_e rfl ?_
      refine e_bsliceL (e := 86) (m := [(0, .agg #[.int .i64 4, .int .i64 7, .int .i64 0, .int .i64 2, .int .i64 0, .int .i64 0])]) (l := [.int .i64 4, .int .i64 7, .int .i64 0, .int .i64 2, .int .i64 0, .int .i64 0]) (evc rfl evn) (fun w => by kernel_rfl) ?_
      intro b_9
      refine s_e rfl ?_
      refine e_appendL (enc := opcV) (xs := ((ys ++ [(Opc.mk 2 0 0 2 0 0)]) : List Opc)) (ns := ([(Opc.mk 4 7 0 2 0 0)] : List Opc)) (zs := ((ys ++ [(Opc.mk 2 0 0 2 0 0)]) ++ [(Opc.mk 4 7 0 2 0 0)])) (bytes := 48) opcV_len opcV_one Try.underlying82 (i := Try.t86) rfl rfl rfl rfl rfl (by decide) rfl rfl (by first | rfl | omega) (by first | rfl | omega) (.t (.t .h)) (fun w hs => celR .h w hs) (by first | rfl | simp) (by (try simp only [List.length_append, List.length_cons, List.length_nil] at *); omega) (by (try simp only [List.length_append, List.length_cons, List.length_nil] at *); omega) ?_
      intro a_10 c_11
      refine s_y (v := .pointer (some ⟨b_2, 2, none⟩)) (y_fieldAddr (o' := 2) h9_3 Try.underlying84 rfl Try.sizeOf82 (by decide) rfl) rfl ?_
      refine s_e0 ?_
      refine e_store (vs := [.slice a_10 (((ys ++ [(Opc.mk 2 0 0 2 0 0)]) ++ [(Opc.mk 4 7 0 2 0 0)]).length) c_11]) (l' := [.int .i64 1, .slice none 0 0, .slice a_10 (((ys ++ [(Opc.mk 2 0 0 2 0 0)]) ++ [(Opc.mk 4 7 0 2 0 0)]).length) c_11, .slice none 0 0]) rfl rfl rfl rfl Try.sizeOf82 (.t (.t .h)) (Nat.le_of_ble_eq_true rfl) rfl ?_
      refine wpL_nil ?_
      refine thenS_n ?_
      refine wpS_region ?_
      refine s_y (v := .int .i64 (((lineW v c i)).toInt)) (y_move h10_3) rfl ?_
      refine s_y (v := .int .i64 (c.toInt)) (y_move h1_3) rfl ?_
      refine s_y (v := .int .i64 ((((lineW v c i) + c)).toInt)) (y_add (a := ((lineW v c i)).toInt) (b := c.toInt) (c := (((lineW v c i) + c)).toInt) rfl rfl (i_add _ _)) rfl ?_
      refine s_y (v := .int .i64 ((((lineW v c i) + c)).toInt)) (y_assign rfl) rfl ?_
      refine wpL_nil ?_
      refine blockS_n ?_
      refine thenS_n ?_
      refine wpS_region ?_
      refine s_y (v := .int .i64 (((i : Nat) : Int))) (y_move h11_3) rfl ?_
      refine s_y (v := .int .i64 ((((i + 1) : Nat) : Int))) (y_add (a := ((i : Nat) : Int)) (b := 1) (c := (((i + 1) : Nat) : Int)) rfl rfl (wI (by omega) (by omega) (by omega))) rfl ?_
      refine s_y (v := .int .i64 ((((i + 1) : Nat) : Int))) (y_assign rfl) rfl ?_
      refine wpL_nil ?_
      refine thenS_n ?_
      exact ⟨_, by omega, ⟨(i + 1), ((ys ++ [(Opc.mk 2 0 0 2 0 0)]) ++ [(Opc.mk 4 7 0 2 0 0)]), a_10, c_11, rfl, by omega, (by simp only [List.length_append, List.length_cons, List.length_nil]; omega), (by first | exact line_tt (by assumption) (by assumption) | exact line_ff (by assumption) (by assumption)), rfl, h0_3, h1_3, h2_3, h3_3, h9_3, rfl, rfl, .p (.t .h) (.p .h .nil)⟩⟩
    · -- idle false
      refine wpS_skip ?_
      refine thenS_n ?_
      refine wpS_region ?_
      refine s_y (v := .int .i64 (((lineW v c i)).toInt)) (y_move h10_3) rfl ?_
      refine s_y (v := .int .i64 (c.toInt)) (y_move h1_3) rfl ?_
      refine s_y (v := .int .i64 ((((lineW v c i) + c)).toInt)) (y_add (a := ((lineW v c i)).toInt) (b := c.toInt) (c := (((lineW v c i) + c)).toInt) rfl rfl (i_add _ _)) rfl ?_
      refine s_y (v := .int .i64 ((((lineW v c i) + c)).toInt)) (y_assign rfl) rfl ?_
      refine wpL_nil ?_
      refine blockS_n ?_
      refine thenS_n ?_
      refine wpS_region ?_
      refine s_y (v := .int .i64 (((i : Nat) : Int))) (y_move h11_3) rfl ?_
      refine s_y (v := .int .i64 ((((i + 1) : Nat) : Int))) (y_add (a := ((i : Nat) : Int)) (b := 1) (c := (((i + 1) : Nat) : Int)) rfl rfl (wI (by omega) (by omega) (by omega))) rfl ?_
      refine s_y (v := .int .i64 ((((i + 1) : Nat) : Int))) (y_assign rfl) rfl ?_
      refine wpL_nil ?_
      refine thenS_n ?_
      exact ⟨_, by omega, ⟨(i + 1), (ys ++ [(Opc.mk 2 0 0 2 0 0)]), a_6, c_7, rfl, by omega, (by simp only [List.length_append, List.length_cons, List.length_nil]; omega), (by first | exact line_tt (by assumption) (by assumption) | exact line_ff (by assumption) (by assumption)), rfl, h0_3, h1_3, h2_3, h3_3, h9_3, rfl, rfl, .p (.t .h) (.p .h .nil)⟩⟩
  · -- decide (i < ((u64of code) % 19)) false
    have p4 := of_decide_eq_false b4
    refine wpS_exit ?_
    refine thenS_x ?_
    refine thenS_x ?_
    refine blockS_h ?_
    refine thenS_n ?_
    refine wpS_seq ?_
    refine wpS_region ?_
    refine s_y (v := .bool true) (y_call (args := #[]) (v := .bool true) Try.call82 ev0 (fun w hs => awake11_c w)) rfl ?_
    refine s_y (v := .bool true) (y_move rfl) rfl ?_
    refine s_gy (y_loadN (vs := [.int .i64 1, .slice none 0 0, .slice a1 ys.length c1, .slice none 0 0]) h9_3 Try.isAgg84 Try.sizeOf84 (ownN (.t .h) rfl)) rfl rfl rfl rfl rfl rfl ?_
    refine s_gy (y_call (args := #[.agg #[.int .i64 1, .slice none 0 0, .slice a1 ys.length c1, .slice none 0 0]]) (v := .int .i64 (chk11 1 ([]) ys ([]))) Try.call84 (ev1 rfl) (fun w hs => check_c 1 none a1 none 0 0 ys.length c1 0 0 ([]) ys ([]) w (by first | rfl | (simp only [List.length_set]; done) | omega) (Rds.nil _ _) (by omega) (by first | rfl | (simp only [List.length_set]; done) | omega) (oslR .h w hs) (by omega) (by first | rfl | (simp only [List.length_set]; done) | omega) (Rds.nil _ _) (by omega))) rfl rfl rfl rfl rfl rfl ?_
    refine s_gy (y_eql (a := chk11 1 ([]) ys ([])) (b := 0) rfl rfl rfl) rfl rfl rfl rfl rfl rfl ?_
    refine s_y (v := .bool (decide ((chk11 1 ([]) ys ([]) : Int) = 0))) (y_pickT (v := .bool (decide ((chk11 1 ([]) ys ([]) : Int) = 0))) rfl rfl rfl) rfl ?_
    refine s_y (v := .bool (decide ((chk11 1 ([]) ys ([]) : Int) = 0))) (y_move rfl) rfl ?_
    refine s_gy (y_loadN (vs := [.int .i64 1, .slice none 0 0, .slice a1 ys.length c1, .slice none 0 0]) h9_3 Try.isAgg84 Try.sizeOf84 (ownN (.t .h) rfl)) rfl rfl rfl rfl (b' := decide ((chk11 1 ([]) ys ([]) : Int) = 0)) rfl (decide_eq_true (chk_0 (by rw [(by assumption : ys = _)]; exact line_ok (by omega)))) ?_
    refine s_gy (y_move h2_3) rfl rfl rfl rfl (b' := decide ((chk11 1 ([]) ys ([]) : Int) = 0)) rfl (decide_eq_true (chk_0 (by rw [(by assumption : ys = _)]; exact line_ok (by omega)))) ?_
    refine s_gy (y_move h1_3) rfl rfl rfl rfl (b' := decide ((chk11 1 ([]) ys ([]) : Int) = 0)) rfl (decide_eq_true (chk_0 (by rw [(by assumption : ys = _)]; exact line_ok (by omega)))) ?_
    refine s_gy (y_call (args := #[.agg #[.int .i64 1, .slice none 0 0, .slice a1 ys.length c1, .slice none 0 0], .int .i64 (v.toInt), .int .i64 (c.toInt)]) (v := .int .i64 (((doneC (chkB 1 ([]) ys ([])) ys v c)).toInt)) Try.call85 (ev3 rfl rfl rfl) (fun w hs => fold_c 1 none a1 none 0 0 ys.length c1 0 0 ([]) ys ([]) v c w (by first | rfl | (simp only [List.length_set]; done) | omega) (Rds.nil _ _) (by omega) (by first | rfl | (simp only [List.length_set]; done) | omega) (oslR .h w hs) (by omega) (by first | rfl | (simp only [List.length_set]; done) | omega) (Rds.nil _ _) (by omega))) rfl rfl rfl rfl (b' := decide ((chk11 1 ([]) ys ([]) : Int) = 0)) rfl (decide_eq_true (chk_0 (by rw [(by assumption : ys = _)]; exact line_ok (by omega)))) ?_
    refine s_gy (y_move h10_3) rfl rfl rfl rfl (b' := decide ((chk11 1 ([]) ys ([]) : Int) = 0)) rfl (decide_eq_true (chk_0 (by rw [(by assumption : ys = _)]; exact line_ok (by omega)))) ?_
    refine s_gy (y_eql (a := ((doneC (chkB 1 ([]) ys ([])) ys v c)).toInt) (b := ((lineW v c i)).toInt) (c := decide ((doneC (chkB 1 ([]) ys ([])) ys v c) = (lineW v c i))) rfl rfl (i_eql _ _)) rfl rfl rfl rfl (b' := decide ((chk11 1 ([]) ys ([]) : Int) = 0)) rfl (decide_eq_true (chk_0 (by rw [(by assumption : ys = _)]; exact line_ok (by omega)))) ?_
    refine s_y (v := .bool (decide ((doneC (chkB 1 ([]) ys ([])) ys v c) = (lineW v c i)))) (y_pickT (b := decide ((chk11 1 ([]) ys ([]) : Int) = 0)) (v := .bool (decide ((doneC (chkB 1 ([]) ys ([])) ys v c) = (lineW v c i)))) rfl (decide_eq_true (chk_0 (by rw [(by assumption : ys = _)]; exact line_ok (by omega)))) rfl) rfl ?_
    refine s_y (v := .bool (decide ((doneC (chkB 1 ([]) ys ([])) ys v c) = (lineW v c i)))) (y_assign rfl) rfl ?_
    refine wpL_nil ?_
    refine thenS_n ?_
    refine wpS_ret ?_
    refine fin1 (v := .bool (decide ((doneC (chkB 1 ([]) ys ([])) ys v c) = (lineW v c i)))) (.inr rfl) (.nil) Try.results20 rfl ?_
    exact fun w' hs => ⟨congrArg (fun b => Ending.returned (Value.bool b)) (show (decide ((doneC (chkB 1 ([]) ys ([])) ys v c) = (lineW v c i))) = true from (decide_eq_true (by rw [(by assumption : ys = _)]; exact (line_fin (by omega)).trans (congrArg _ (by omega))))), hs⟩

end Go.Proofs.Ytldkjjnjdjfipaa
