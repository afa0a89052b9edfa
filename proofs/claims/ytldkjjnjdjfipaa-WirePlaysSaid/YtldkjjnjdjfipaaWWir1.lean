/- Slices of letters cloned, and without one; walked. -/
import Derived.Test.YtldkjjnjdjfipaaP19
import Derived.Test.YtldkjjnjdjfipaaPtr
import Derived.Test.YtldkjjnjdjfipaaDel
import Derived.Test.YtldkjjnjdjfipaaRf2
import Derived.Test.YtldkjjnjdjfipaaWMrg2
import Derived.Test.YtldkjjnjdjfipaaGen
namespace Go.Proofs.Ytldkjjnjdjfipaa
open Go Go.RowKit
set_option linter.unusedVariables false
set_option linter.unusedSimpArgs false
set_option maxRecDepth 10000
set_option maxHeartbeats 1000000

theorem cloneL_c (a : Option Addr) (n c : Nat) (l : List Let) (w : World) (hn : l.length = n) (hr : Rds w a (l.flatMap letV)) (hb : n ≤ 1000000) : MakesS Try.prog 192 #[.slice a n c] w [] letV 2 218 l := by
  refine calls_S (n := 8) (σ0 := (upd fr0 0 (.slice a n c))) (D := []) (A := []) Try.func192 rfl Try.ntmps192 rfl (a1_fr _) (SH.start w) ?_
  refine wpS_seq ?_
  refine wpS_region ?_
  refine s_y (v := .slice none 0 0) (y_assign rfl) rfl ?_
  refine wpL_nil ?_
  refine thenS_n ?_
  refine wpS_seq ?_
  refine wpS_seq ?_
  refine wpS_region ?_
  refine s_y (v := .slice a n c) (y_move rfl) rfl ?_
  refine s_y (v := .bool ((a).isNone)) (y_isNil rfl rfl Try.underlying213 (by kernel_rfl)) rfl ?_
  refine wpL_nil ?_
  refine thenS_n ?_
  refine wpS_cond (t := (a).isNone) rfl (fun b1 => ?_) (fun b1 => ?_)
  · -- (a).isNone true
    have hn_nil : a = none := by simpa using b1
    refine wpS_seq ?_
    refine wpS_region ?_
    refine s_y (v := .slice none 0 0) (y_assign rfl) rfl ?_
    refine wpL_nil ?_
    refine thenS_n ?_
    refine wpS_ret ?_
    refine thenS_r ?_
    refine finNil (.inr rfl) .nil Try.results192 rfl (sz := 2) (ty := 218) ?_
    exact fun w' hs => ⟨(none, 0), by rw [show l = [] from (rds_none letV_len (by decide) hr hn_nil)]; rfl, by rw [show l = [] from (rds_none letV_len (by decide) hr hn_nil)]; exact hs, trivial⟩
  · -- (a).isNone false
    refine wpS_skip ?_
    refine thenS_n ?_
    refine wpS_seq ?_
    refine wpS_region ?_
    refine s_e rfl ?_
    refine e_bsliceL (e := 218) (m := []) (l := []) evn (fun w => by kernel_rfl) ?_
    intro b_2
    refine s_y (v := .slice a n c) (y_move rfl) rfl ?_
    refine s_e rfl ?_
    refine OpE.ent (SH.celO (n := 0) (sz := 2) .h rfl (by decide)) ?_
    refine e_appendL (enc := letV) (xs := ([] : List Let)) (ns := (l : List Let)) (zs := l) (bytes := 32) letV_len letV_one Try.underlying213 (i := Try.t218) rfl rfl rfl rfl rfl (by decide) rfl rfl (by first | rfl | omega) (by first | rfl | omega) .h (oldR hr) (by first | rfl | simp) (by (try simp only [List.length_append, List.length_cons, List.length_nil] at *); omega) (by (try simp only [List.length_append, List.length_cons, List.length_nil] at *); omega) ?_
    intro a_4 c_5
    refine s_y (v := .slice a_4 l.length c_5) (y_assign rfl) rfl ?_
    refine wpL_nil ?_
    refine thenS_n ?_
    refine wpS_ret ?_
    refine fin1 (M := [osl a_4 c_5 l.length 2 218 (l.flatMap letV)]) (v := .slice a_4 l.length c_5) (.inr rfl) (.p .h .nil) Try.results192 rfl ?_
    exact fun w' hs => ⟨(a_4, c_5), rfl, hs, trivial⟩

theorem cloneB_c (a : Option Addr) (n c : Nat) (l : List UInt8) (w : World) (hn : l.length = n) (hr : Rds w a (l.flatMap byteV)) (hb : n ≤ 1000000) : MakesS Try.prog 193 #[.slice a n c] w [] byteV 1 5 l := by
  refine calls_S (n := 8) (σ0 := (upd fr0 0 (.slice a n c))) (D := []) (A := []) Try.func193 rfl Try.ntmps193 rfl (a1_fr _) (SH.start w) ?_
  refine wpS_seq ?_
  refine wpS_region ?_
  refine s_y (v := .slice none 0 0) (y_assign rfl) rfl ?_
  refine wpL_nil ?_
  refine thenS_n ?_
  refine wpS_seq ?_
  refine wpS_seq ?_
  refine wpS_region ?_
  refine s_y (v := .slice a n c) (y_move rfl) rfl ?_
  refine s_y (v := .bool ((a).isNone)) (y_isNil rfl rfl Try.underlying61 (by kernel_rfl)) rfl ?_
  refine wpL_nil ?_
  refine thenS_n ?_
  refine wpS_cond (t := (a).isNone) rfl (fun b1 => ?_) (fun b1 => ?_)
  · -- (a).isNone true
    have hn_nil : a = none := by simpa using b1
    refine wpS_seq ?_
    refine wpS_region ?_
    refine s_y (v := .slice none 0 0) (y_assign rfl) rfl ?_
    refine wpL_nil ?_
    refine thenS_n ?_
    refine wpS_ret ?_
    refine thenS_r ?_
    refine finNil (.inr rfl) .nil Try.results193 rfl (sz := 1) (ty := 5) ?_
    exact fun w' hs => ⟨(none, 0), by rw [show l = [] from (rds_none byteV_len (by decide) hr hn_nil)]; rfl, by rw [show l = [] from (rds_none byteV_len (by decide) hr hn_nil)]; exact hs, trivial⟩
  · -- (a).isNone false
    refine wpS_skip ?_
    refine thenS_n ?_
    refine wpS_seq ?_
    refine wpS_region ?_
    refine s_e rfl ?_
    refine e_bsliceL (e := 5) (m := []) (l := []) evn (fun w => by kernel_rfl) ?_
    intro b_2
    refine s_y (v := .slice a n c) (y_move rfl) rfl ?_
    refine s_e rfl ?_
    refine OpE.ent (SH.celO (n := 0) (sz := 1) .h rfl (by decide)) ?_
    refine e_appendL (enc := byteV) (xs := ([] : List UInt8)) (ns := (l : List UInt8)) (zs := l) (bytes := 1) byteV_len byteV_one Try.underlying61 (i := Try.t5) rfl rfl rfl rfl rfl (by decide) rfl rfl (by first | rfl | omega) (by first | rfl | omega) .h (oldR hr) (by first | rfl | simp) (by (try simp only [List.length_append, List.length_cons, List.length_nil] at *); omega) (by (try simp only [List.length_append, List.length_cons, List.length_nil] at *); omega) ?_
    intro a_4 c_5
    refine s_y (v := .slice a_4 l.length c_5) (y_assign rfl) rfl ?_
    refine wpL_nil ?_
    refine thenS_n ?_
    refine wpS_ret ?_
    refine fin1 (M := [osl a_4 c_5 l.length 1 5 (l.flatMap byteV)]) (v := .slice a_4 l.length c_5) (.inr rfl) (.p .h .nil) Try.results193 rfl ?_
    exact fun w' hs => ⟨(a_4, c_5), rfl, hs, trivial⟩

theorem sl31 {P : Program} {w0 : World} {D : List Nat} {σ : Fr} {L : List Res} {op : Op} {a : Option Addr} {i n c : Nat} (h : i < n) (h2 : OpR P w0 D σ L op (.slice a (n - (n - 1)) c)) : OpR P w0 D σ L op (.slice a 1 c) := by
  rw [show n - (n - 1) = 1 by omega] at h2
  exact h2

theorem delete_c (a : Option Addr) (n c i : Nat) (l : List Let) (w : World) (hn : l.length = n) (hb : n ≤ 1000000) (hin : i < n) (hA : SH w (([osl a c n 2 218 (l.flatMap letV)] : List Res).flatMap Res.fp) [osl a c n 2 218 (l.flatMap letV)] w) : Calls Try.prog 191 #[.slice a n c, .int .i64 ((i : Nat) : Int), .int .i64 ((i + 1 : Nat) : Int)] w (fun e w' => e = .returned (.slice a (n - 1) c) ∧ SH w (([osl a c n 2 218 (l.flatMap letV)] : List Res).flatMap Res.fp) [osl a c (n - 1) 2 218 ((cutL l i).flatMap letV)] w') := by
  refine calls_S (n := 33) (σ0 := (upd (upd (upd fr0 0 (.slice a n c)) 1 (.int .i64 (((i : Nat) : Int)))) 2 (.int .i64 ((((i + 1) : Nat) : Int))))) (D := (([osl a c n 2 218 (l.flatMap letV)] : List Res).flatMap Res.fp)) (A := [osl a c n 2 218 (l.flatMap letV)]) Try.func191 rfl Try.ntmps191 rfl (a3_fr _ _ _) hA ?_
  refine wpS_cap .h (fun hcap => ?_)
  refine wpS_seq ?_
  refine wpS_region ?_
  refine s_y (v := .slice none 0 0) (y_assign rfl) rfl ?_
  refine wpL_nil ?_
  refine thenS_n ?_
  refine wpS_seq ?_
  refine wpS_region ?_
  refine s_y (v := .slice a n c) (y_move rfl) rfl ?_
  refine s_y (v := .int .i64 (((i : Nat) : Int))) (y_move rfl) rfl ?_
  refine s_y (v := .int .i64 ((((i + 1) : Nat) : Int))) (y_move rfl) rfl ?_
  refine s_y (v := .slice a n c) (y_move rfl) rfl ?_
  refine s_y (v := .int .i64 (((n : Nat) : Int))) (y_len (ty' := 0) (at_ := #[]) rfl Try.underlying213) rfl ?_
  refine s_y (v := .slice (subA a n i 2) (i + 1 - i) (n - i)) (y_sliceLHM (l' := i) (h' := i + 1) (m' := n) rfl rfl rfl rfl Try.underlying213 Try.sizeOf218 (by omega) (by omega) (by omega) (by omega) (by omega) (by omega) (by omega)) rfl ?_
  refine wpL_nil ?_
  refine thenS_n ?_
  refine wpS_seq ?_
  refine wpS_seq ?_
  refine wpS_region ?_
  refine s_y (v := .int .i64 (((i : Nat) : Int))) (y_move rfl) rfl ?_
  refine s_y (v := .int .i64 ((((i + 1) : Nat) : Int))) (y_move rfl) rfl ?_
  refine s_y (v := .bool (decide (i = (i + 1)))) (y_eql (a := ((i : Nat) : Int)) (b := (((i + 1) : Nat) : Int)) (c := decide (i = (i + 1))) rfl rfl (decide_eq_decide.2 (by omega))) rfl ?_
  refine wpL_nil ?_
  refine thenS_n ?_
  refine wpS_cond_F (t := decide (i = (i + 1))) rfl (decide_eq_false (by omega)) ?_
  refine wpS_skip ?_
  refine thenS_n ?_
  refine wpS_seq ?_
  refine wpS_region ?_
  refine s_y (v := .slice a n c) (y_move rfl) rfl ?_
  refine s_y (v := .int .i64 (((n : Nat) : Int))) (y_len (ty' := 0) (at_ := #[]) rfl Try.underlying213) rfl ?_
  refine s_y (v := .int .i64 (((n : Nat) : Int))) (y_assign rfl) rfl ?_
  refine wpL_nil ?_
  refine thenS_n ?_
  refine wpS_seq ?_
  refine wpS_anyL [] [] (by kernel_rfl) ?_
  refine anyS_take (i := 0) rfl (by kernel_rfl) (by kernel_rfl) (by kernel_rfl) (by kernel_rfl) (Yq.of (v := .slice a n c) (y_move rfl) rfl) (.nil) ?_
  refine anyS_take (i := 1) rfl (by kernel_rfl) (by kernel_rfl) (by kernel_rfl) (by kernel_rfl) (Yq.of (v := .int .i64 (((i : Nat) : Int))) (y_move rfl) rfl) (.nil) ?_
  refine anyS_take (i := 2) rfl (by kernel_rfl) (by kernel_rfl) (by kernel_rfl) (by kernel_rfl) (Yq.of (v := .slice a i c) (y_sliceH (h' := i) rfl rfl Try.underlying213 Try.sizeOf218 (by omega) (by omega) (by omega)) rfl) (.nil) ?_
  refine anyS_take (i := 3) rfl (by kernel_rfl) (by kernel_rfl) (by kernel_rfl) (by kernel_rfl) (Yq.of (v := .slice a n c) (y_move rfl) rfl) (.nil) ?_
  refine anyS_take (i := 4) rfl (by kernel_rfl) (by kernel_rfl) (by kernel_rfl) (by kernel_rfl) (Yq.of (v := .int .i64 ((((i + 1) : Nat) : Int))) (y_move rfl) rfl) (.nil) ?_
  refine anyS_take (i := 5) rfl (by kernel_rfl) (by kernel_rfl) (by kernel_rfl) (by kernel_rfl) (Yq.of (v := .slice (subA a c (i + 1) 2) (n - (i + 1)) (c - (i + 1))) (y_sliceL (l' := i + 1) rfl rfl Try.underlying213 Try.sizeOf218 (by omega) (by omega) (by omega)) rfl) (.nil) ?_
  refine anyS_all (rs := [6]) (by kernel_rfl) (by simp) ?_
  intro i hi; obtain rfl := List.mem_singleton.1 hi; clear hi
  refine opS_0 rfl rfl ?_
  refine e_appendOv (enc := letV) (xs := l) (ns := (l.drop (i + 1))) (zs := (l.take i ++ l.drop (i + 1) ++ l.drop (i + (n - (i + 1))))) letV_len letV_one Try.underlying213 (i := Try.t218) rfl rfl (by decide) rfl rfl (by rw [List.length_drop]; omega) .h hn (rdsD letV_len (i + 1) (by omega) (oslR .h)) (by omega) rfl ?_
  refine ⟨.inr (.nil), ?_⟩
  refine anyS_take (i := 7) rfl (by kernel_rfl) (by kernel_rfl) (by kernel_rfl) (by kernel_rfl) (Yq.of (v := .slice a (i + (n - (i + 1))) c) (y_assign rfl) rfl) (.nil) ?_
  refine anyS_done (by kernel_rfl) ?_
  refine thenS_n ?_
  refine wpS_seq ?_
  refine wpS_region ?_
  refine s_y (v := .slice a (i + (n - (i + 1))) c) (y_move rfl) rfl ?_
  refine s_y (v := .slice a (i + (n - (i + 1))) c) (y_move rfl) rfl ?_
  refine s_y (v := .int .i64 ((((i + (n - (i + 1))) : Nat) : Int))) (y_len (ty' := 0) (at_ := #[]) rfl Try.underlying213) rfl ?_
  refine s_y (v := .int .i64 (((n : Nat) : Int))) (y_move rfl) rfl ?_
  refine s_y (v := .slice (subA a c (n - 1) 2) 1 (c - (n - 1))) (sl31 hin (y_sliceLH (l' := n - 1) (h' := n) rfl rfl rfl Try.underlying213 Try.sizeOf218 (by omega) (by omega) (by omega) (by omega) (by omega))) rfl ?_
  refine s_e0 ?_
  refine e_clear1 (enc := letV) (y0 := zLet) (xs := (l.take i ++ l.drop (i + 1) ++ l.drop (i + (n - (i + 1))))) (j := (n - 1)) (zs := ((l.take i ++ l.drop (i + 1) ++ l.drop (i + (n - (i + 1)))).set (n - 1) zLet)) letV_len letV_one (by decide) Try.underlying213 Try.zeroValue218 rfl rfl .h (by simp only [List.length_append, List.length_take, List.length_drop]; omega) (by omega) rfl ?_
  refine wpL_nil ?_
  refine thenS_n ?_
  refine wpS_seq ?_
  refine wpS_region ?_
  refine s_y (v := .slice a (i + (n - (i + 1))) c) (y_move rfl) rfl ?_
  refine s_y (v := .slice a (i + (n - (i + 1))) c) (y_assign rfl) rfl ?_
  refine wpL_nil ?_
  refine thenS_n ?_
  refine wpS_ret ?_
  refine fin1 (M := [osl a c (n - 1) 2 218 ((((l.take i ++ l.drop (i + 1) ++ l.drop (i + (n - (i + 1)))).set (n - 1) zLet).take (n - 1)).flatMap letV)]) (v := .slice a (i + (n - (i + 1))) c) (.inr rfl) (.w .h (osl_cut letV_len (by simp only [List.length_set, List.length_append, List.length_take, List.length_drop]; omega) (by omega)) .nil) Try.results191 rfl ?_
  exact fun w' hs => ⟨by rw [show i + (n - (i + 1)) = n - 1 by omega], by have e := del_take (l := l) (i := i) (by omega); rw [hn] at e; rw [e] at hs; exact hs⟩

end Go.Proofs.Ytldkjjnjdjfipaa
