/- The answers without branches, walked. -/
import Derived.Test.YtldkjjnjdjfipaaNum
import Derived.Test.YtldkjjnjdjfipaaCt
import Derived.Test.YtldkjjnjdjfipaaRows
namespace Go.Proofs.Ytldkjjnjdjfipaa
open Go Go.RowKit
set_option linter.unusedVariables false
set_option linter.unusedSimpArgs false
set_option maxRecDepth 10000

theorem less_c (a b : UInt64) (w : World) : Pure Try.prog 216 #[.int .u64 (a.toNat), .int .u64 (b.toNat)] w (.int .u64 ((b64 (decide (a < b))).toNat)) := by
  refine calls_S (n := 19) (σ0 := (upd (upd fr0 0 (.int .u64 (a.toNat))) 1 (.int .u64 (b.toNat)))) (D := []) (A := []) Try.func216 rfl Try.ntmps216 rfl (a2_fr _ _) (SH.start w) ?_
  refine wpS_seq ?_
  refine wpS_region ?_
  refine s_y (v := .int .u64 0) (y_assign rfl) rfl ?_
  refine wpL_nil ?_
  refine thenS_n ?_
  refine wpS_seq ?_
  refine wpS_region ?_
  refine s_y (v := .int .u64 (a.toNat)) (y_move rfl) rfl ?_
  refine s_y (v := .int .u64 ((~~~a).toNat)) (y_compl (a := a.toNat) (c := (~~~a).toNat) rfl (u_compl _)) rfl ?_
  refine s_y (v := .int .u64 (b.toNat)) (y_move rfl) rfl ?_
  refine s_y (v := .int .u64 ((((~~~a) &&& b)).toNat)) (y_and (a := (~~~a).toNat) (b := b.toNat) (c := (((~~~a) &&& b)).toNat) rfl rfl (u_and _ _)) rfl ?_
  refine s_y (v := .int .u64 (a.toNat)) (y_move rfl) rfl ?_
  refine s_y (v := .int .u64 ((~~~a).toNat)) (y_compl (a := a.toNat) (c := (~~~a).toNat) rfl (u_compl _)) rfl ?_
  refine s_y (v := .int .u64 (b.toNat)) (y_move rfl) rfl ?_
  refine s_y (v := .int .u64 ((((~~~a) ||| b)).toNat)) (y_or (a := (~~~a).toNat) (b := b.toNat) (c := (((~~~a) ||| b)).toNat) rfl rfl (u_or _ _)) rfl ?_
  refine s_y (v := .int .u64 (a.toNat)) (y_move rfl) rfl ?_
  refine s_y (v := .int .u64 (b.toNat)) (y_move rfl) rfl ?_
  refine s_y (v := .int .u64 (((a - b)).toNat)) (y_sub (a := a.toNat) (b := b.toNat) (c := ((a - b)).toNat) rfl rfl (u_sub _ _)) rfl ?_
  refine s_y (v := .int .u64 (((((~~~a) ||| b) &&& (a - b))).toNat)) (y_and (a := (((~~~a) ||| b)).toNat) (b := ((a - b)).toNat) (c := ((((~~~a) ||| b) &&& (a - b))).toNat) rfl rfl (u_and _ _)) rfl ?_
  refine s_y (v := .int .u64 (((((~~~a) &&& b) ||| (((~~~a) ||| b) &&& (a - b)))).toNat)) (y_or (a := (((~~~a) &&& b)).toNat) (b := ((((~~~a) ||| b) &&& (a - b))).toNat) (c := ((((~~~a) &&& b) ||| (((~~~a) ||| b) &&& (a - b)))).toNat) rfl rfl (u_or _ _)) rfl ?_
  refine s_y (v := .int .u64 ((((((~~~a) &&& b) ||| (((~~~a) ||| b) &&& (a - b))) >>> 63)).toNat)) (y_shr (a := ((((~~~a) &&& b) ||| (((~~~a) ||| b) &&& (a - b)))).toNat) (b := 63) (c := (((((~~~a) &&& b) ||| (((~~~a) ||| b) &&& (a - b))) >>> 63)).toNat) rfl rfl (by decide) (u_shr _ 63 (by decide))) rfl ?_
  refine s_y (v := .int .u64 ((((((~~~a) &&& b) ||| (((~~~a) ||| b) &&& (a - b))) >>> 63)).toNat)) (y_assign rfl) rfl ?_
  refine wpL_nil ?_
  refine thenS_n ?_
  refine wpS_ret ?_
  refine fin1 (v := .int .u64 ((((((~~~a) &&& b) ||| (((~~~a) ||| b) &&& (a - b))) >>> 63)).toNat)) (.inr rfl) .nil Try.results216 rfl ?_
  exact fun w' hs => ⟨(by rw [ct_less]), hs⟩

theorem below_c (a b : Int64) (w : World) : Pure Try.prog 144 #[.int .i64 (a.toInt), .int .i64 (b.toInt)] w (.int .u64 ((b64 (decide (a < b))).toNat)) := by
  refine calls_S (n := 12) (σ0 := (upd (upd fr0 0 (.int .i64 (a.toInt))) 1 (.int .i64 (b.toInt)))) (D := []) (A := []) Try.func144 rfl Try.ntmps144 rfl (a2_fr _ _) (SH.start w) ?_
  refine wpS_seq ?_
  refine wpS_region ?_
  refine s_y (v := .int .u64 0) (y_assign rfl) rfl ?_
  refine wpL_nil ?_
  refine thenS_n ?_
  refine wpS_seq ?_
  refine wpS_region ?_
  refine s_y (v := .int .i64 (a.toInt)) (y_move rfl) rfl ?_
  refine s_y (v := .int .u64 ((a.toUInt64).toNat)) (y_convI (a := a.toInt) (c := (a.toUInt64).toNat) rfl Try.underlying2 Try.underlying24 (iu_conv _)) rfl ?_
  refine s_y (v := .int .u64 (((a.toUInt64 ^^^ 9223372036854775808)).toNat)) (y_xor (a := (a.toUInt64).toNat) (b := 9223372036854775808) (c := ((a.toUInt64 ^^^ 9223372036854775808)).toNat) rfl rfl (u_xorL _ 9223372036854775808 (by decide))) rfl ?_
  refine s_y (v := .int .i64 (b.toInt)) (y_move rfl) rfl ?_
  refine s_y (v := .int .u64 ((b.toUInt64).toNat)) (y_convI (a := b.toInt) (c := (b.toUInt64).toNat) rfl Try.underlying2 Try.underlying24 (iu_conv _)) rfl ?_
  refine s_y (v := .int .u64 (((b.toUInt64 ^^^ 9223372036854775808)).toNat)) (y_xor (a := (b.toUInt64).toNat) (b := 9223372036854775808) (c := ((b.toUInt64 ^^^ 9223372036854775808)).toNat) rfl rfl (u_xorL _ 9223372036854775808 (by decide))) rfl ?_
  refine s_y (v := .int .u64 ((b64 (decide ((a.toUInt64 ^^^ 9223372036854775808) < (b.toUInt64 ^^^ 9223372036854775808)))).toNat)) (y_call (args := #[.int .u64 (((a.toUInt64 ^^^ 9223372036854775808)).toNat), .int .u64 (((b.toUInt64 ^^^ 9223372036854775808)).toNat)]) (v := .int .u64 ((b64 (decide ((a.toUInt64 ^^^ 9223372036854775808) < (b.toUInt64 ^^^ 9223372036854775808)))).toNat)) Try.call216 (ev2 rfl rfl) (fun w hs => less_c (a.toUInt64 ^^^ 9223372036854775808) (b.toUInt64 ^^^ 9223372036854775808) w)) rfl ?_
  refine s_y (v := .int .u64 ((b64 (decide ((a.toUInt64 ^^^ 9223372036854775808) < (b.toUInt64 ^^^ 9223372036854775808)))).toNat)) (y_assign rfl) rfl ?_
  refine wpL_nil ?_
  refine thenS_n ?_
  refine wpS_ret ?_
  refine fin1 (v := .int .u64 ((b64 (decide ((a.toUInt64 ^^^ 9223372036854775808) < (b.toUInt64 ^^^ 9223372036854775808)))).toNat)) (.inr rfl) .nil Try.results144 rfl ?_
  exact fun w' hs => ⟨(by rw [ct_below_key]), hs⟩

theorem same_c (a b : UInt64) (w : World) : Pure Try.prog 143 #[.int .u64 (a.toNat), .int .u64 (b.toNat)] w (.int .u64 ((b64 (decide (a = b))).toNat)) := by
  refine calls_S (n := 15) (σ0 := (upd (upd fr0 0 (.int .u64 (a.toNat))) 1 (.int .u64 (b.toNat)))) (D := []) (A := []) Try.func143 rfl Try.ntmps143 rfl (a2_fr _ _) (SH.start w) ?_
  refine wpS_seq ?_
  refine wpS_region ?_
  refine s_y (v := .int .u64 0) (y_assign rfl) rfl ?_
  refine wpL_nil ?_
  refine thenS_n ?_
  refine wpS_seq ?_
  refine wpS_region ?_
  refine s_y (v := .int .u64 (a.toNat)) (y_move rfl) rfl ?_
  refine s_y (v := .int .u64 (b.toNat)) (y_move rfl) rfl ?_
  refine s_y (v := .int .u64 (((a ^^^ b)).toNat)) (y_xor (a := a.toNat) (b := b.toNat) (c := ((a ^^^ b)).toNat) rfl rfl (u_xor _ _)) rfl ?_
  refine s_y (v := .int .u64 (((a ^^^ b)).toNat)) (y_assign rfl) rfl ?_
  refine wpL_nil ?_
  refine thenS_n ?_
  refine wpS_seq ?_
  refine wpS_region ?_
  refine s_y (v := .int .u64 (((a ^^^ b)).toNat)) (y_move rfl) rfl ?_
  refine s_y (v := .int .u64 (((a ^^^ b)).toNat)) (y_move rfl) rfl ?_
  refine s_y (v := .int .u64 ((-(a ^^^ b)).toNat)) (y_neg (a := ((a ^^^ b)).toNat) (c := (-(a ^^^ b)).toNat) rfl (u_neg _)) rfl ?_
  refine s_y (v := .int .u64 ((((a ^^^ b) ||| (-(a ^^^ b)))).toNat)) (y_or (a := ((a ^^^ b)).toNat) (b := (-(a ^^^ b)).toNat) (c := (((a ^^^ b) ||| (-(a ^^^ b)))).toNat) rfl rfl (u_or _ _)) rfl ?_
  refine s_y (v := .int .u64 (((((a ^^^ b) ||| (-(a ^^^ b))) >>> 63)).toNat)) (y_shr (a := (((a ^^^ b) ||| (-(a ^^^ b)))).toNat) (b := 63) (c := ((((a ^^^ b) ||| (-(a ^^^ b))) >>> 63)).toNat) rfl rfl (by decide) (u_shr _ 63 (by decide))) rfl ?_
  refine s_y (v := .int .u64 ((((((a ^^^ b) ||| (-(a ^^^ b))) >>> 63) ^^^ 1)).toNat)) (y_xor (a := ((((a ^^^ b) ||| (-(a ^^^ b))) >>> 63)).toNat) (b := 1) (c := (((((a ^^^ b) ||| (-(a ^^^ b))) >>> 63) ^^^ 1)).toNat) rfl rfl (u_xorL _ 1 (by decide))) rfl ?_
  refine s_y (v := .int .u64 ((((((a ^^^ b) ||| (-(a ^^^ b))) >>> 63) ^^^ 1)).toNat)) (y_assign rfl) rfl ?_
  refine wpL_nil ?_
  refine thenS_n ?_
  refine wpS_ret ?_
  refine fin1 (v := .int .u64 ((((((a ^^^ b) ||| (-(a ^^^ b))) >>> 63) ^^^ 1)).toNat)) (.inr rfl) .nil Try.results143 rfl ?_
  exact fun w' hs => ⟨(by rw [ct_same]), hs⟩

theorem ctpick_c (c a b : UInt64) (w : World) : Pure Try.prog 147 #[.int .u64 (c.toNat), .int .u64 (a.toNat), .int .u64 (b.toNat)] w (.int .u64 (((if c &&& 1 = 1 then a else b)).toNat)) := by
  refine calls_S (n := 18) (σ0 := (upd (upd (upd fr0 0 (.int .u64 (c.toNat))) 1 (.int .u64 (a.toNat))) 2 (.int .u64 (b.toNat)))) (D := []) (A := []) Try.func147 rfl Try.ntmps147 rfl (a3_fr _ _ _) (SH.start w) ?_
  refine wpS_seq ?_
  refine wpS_region ?_
  refine s_y (v := .int .u64 0) (y_assign rfl) rfl ?_
  refine wpL_nil ?_
  refine thenS_n ?_
  refine wpS_seq ?_
  refine wpS_region ?_
  refine s_y (v := .int .u64 (c.toNat)) (y_move rfl) rfl ?_
  refine s_y (v := .int .u64 (((c &&& 1)).toNat)) (y_and (a := c.toNat) (b := 1) (c := ((c &&& 1)).toNat) rfl rfl (u_andL _ 1 (by decide))) rfl ?_
  refine s_y (v := .int .u64 ((-(c &&& 1)).toNat)) (y_neg (a := ((c &&& 1)).toNat) (c := (-(c &&& 1)).toNat) rfl (u_neg _)) rfl ?_
  refine s_y (v := .int .u64 ((-(c &&& 1)).toNat)) (y_assign rfl) rfl ?_
  refine wpL_nil ?_
  refine thenS_n ?_
  refine wpS_seq ?_
  refine wpS_region ?_
  refine s_y (v := .int .u64 (a.toNat)) (y_move rfl) rfl ?_
  refine s_y (v := .int .u64 ((-(c &&& 1)).toNat)) (y_move rfl) rfl ?_
  refine s_y (v := .int .u64 (((a &&& (-(c &&& 1)))).toNat)) (y_and (a := a.toNat) (b := (-(c &&& 1)).toNat) (c := ((a &&& (-(c &&& 1)))).toNat) rfl rfl (u_and _ _)) rfl ?_
  refine s_y (v := .int .u64 (b.toNat)) (y_move rfl) rfl ?_
  refine s_y (v := .int .u64 ((-(c &&& 1)).toNat)) (y_move rfl) rfl ?_
  refine s_y (v := .int .u64 (((b &&& ~~~(-(c &&& 1)))).toNat)) (y_andNot (a := b.toNat) (b := (-(c &&& 1)).toNat) (c := ((b &&& ~~~(-(c &&& 1)))).toNat) rfl rfl (u_andNot _ _)) rfl ?_
  refine s_y (v := .int .u64 ((((a &&& (-(c &&& 1))) ||| (b &&& ~~~(-(c &&& 1))))).toNat)) (y_or (a := ((a &&& (-(c &&& 1)))).toNat) (b := ((b &&& ~~~(-(c &&& 1)))).toNat) (c := (((a &&& (-(c &&& 1))) ||| (b &&& ~~~(-(c &&& 1))))).toNat) rfl rfl (u_or _ _)) rfl ?_
  refine s_y (v := .int .u64 ((((a &&& (-(c &&& 1))) ||| (b &&& ~~~(-(c &&& 1))))).toNat)) (y_assign rfl) rfl ?_
  refine wpL_nil ?_
  refine thenS_n ?_
  refine wpS_ret ?_
  refine fin1 (v := .int .u64 ((((a &&& (-(c &&& 1))) ||| (b &&& ~~~(-(c &&& 1))))).toNat)) (.inr rfl) .nil Try.results147 rfl ?_
  exact fun w' hs => ⟨(by rw [ct_pick]), hs⟩

theorem bit_c (b : Bool) (w : World) : Pure Try.prog 142 #[.bool b] w (.int .u64 ((b64 b).toNat)) := by
  refine calls_S (n := 4) (σ0 := (upd fr0 0 (.bool b))) (D := []) (A := []) Try.func142 rfl Try.ntmps142 rfl (a1_fr _) (SH.start w) ?_
  refine wpS_seq ?_
  refine wpS_region ?_
  refine s_y (v := .int .u64 0) (y_assign rfl) rfl ?_
  refine wpL_nil ?_
  refine thenS_n ?_
  refine wpS_seq ?_
  refine wpS_seq ?_
  refine wpS_region ?_
  refine s_y (v := .bool b) (y_move rfl) rfl ?_
  refine wpL_nil ?_
  refine thenS_n ?_
  refine wpS_cond (t := b) rfl (fun b1 => ?_) (fun b1 => ?_)
  · -- b true
    subst b1
    refine wpS_seq ?_
    refine wpS_region ?_
    refine s_y (v := .int .u64 1) (y_assign rfl) rfl ?_
    refine wpL_nil ?_
    refine thenS_n ?_
    refine wpS_ret ?_
    refine thenS_r ?_
    refine fin1 (v := .int .u64 1) (.inr rfl) .nil Try.results142 rfl ?_
    exact fun w' hs => ⟨rfl, hs⟩
  · -- b false
    subst b1
    refine wpS_skip ?_
    refine thenS_n ?_
    refine wpS_seq ?_
    refine wpS_region ?_
    refine s_y (v := .int .u64 0) (y_assign rfl) rfl ?_
    refine wpL_nil ?_
    refine thenS_n ?_
    refine wpS_ret ?_
    refine fin1 (v := .int .u64 0) (.inr rfl) .nil Try.results142 rfl ?_
    exact fun w' hs => ⟨rfl, hs⟩

end Go.Proofs.Ytldkjjnjdjfipaa
