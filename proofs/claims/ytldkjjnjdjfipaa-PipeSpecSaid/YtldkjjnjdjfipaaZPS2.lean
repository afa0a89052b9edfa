/- RPspec: a part of it: what its walk and its plain law need. -/
import Derived.WalkKit
import Derived.WalkSpells
import Derived.WalkLawsBesides
import Derived.TacticsIn
import Derived.OrdersIn
import Derived.RangeFuncIn
import Derived.RangeFuncLeaves
import Derived.RangeFuncRecord
import Derived.KernelRfl
import Derived.Maps.AppendAt
import Derived.Laws.Cover3
import Derived.Laws.MakeOwn
import Derived.Test.YtldkjjnjdjfipaaRows
import Derived.ChangeKeysEq
import Derived.Test.YtldkjjnjdjfipaaZPS1
namespace Go.Proofs.Ytldkjjnjdjfipaa
open Go Go.RowKit
set_option linter.unusedVariables false
set_option linter.unusedSimpArgs false
set_option maxRecDepth 10000
theorem less_c (a b : UInt64) (w : World) : Pure Try.prog 216 #[.int .u64 a.toNat, .int .u64 b.toNat] w (.int .u64 ((b64 (decide (a < b))).toNat)) := by
 refine calls_S (n := 19) (σ0 := (upd (upd fr0 0 (.int .u64 a.toNat)) 1 (.int .u64 b.toNat))) (D := []) (A := []) Try.func216 rfl Try.ntmps216 rfl (a2_fr _ _) (SH.start w) ?_
 refine wpS_seq ?_
 refine wpS_region ?_
 refine s_y (v := .int .u64 0) (y_assign rfl) rfl ?_
 refine wpL_nil ?_
 refine thenS_n ?_
 refine wpS_seq ?_
 refine wpS_region ?_
 refine s_y (v := .int .u64 a.toNat) (y_move rfl) rfl ?_
 refine s_y (v := .int .u64 ((~~~a).toNat)) (y_compl (a := a.toNat) rfl (u_compl _)) rfl ?_
 refine s_y (v := .int .u64 b.toNat) (y_move rfl) rfl ?_
 refine s_y (v := .int .u64 (((~~~a) &&& b).toNat)) (y_and (a := (~~~a).toNat) (b := b.toNat) rfl rfl (u_and _ _)) rfl ?_
 refine s_y (v := .int .u64 a.toNat) (y_move rfl) rfl ?_
 refine s_y (v := .int .u64 ((~~~a).toNat)) (y_compl (a := a.toNat) rfl (u_compl _)) rfl ?_
 refine s_y (v := .int .u64 b.toNat) (y_move rfl) rfl ?_
 refine s_y (v := .int .u64 (((~~~a) ||| b).toNat)) (y_or (a := (~~~a).toNat) (b := b.toNat) rfl rfl (u_or _ _)) rfl ?_
 refine s_y (v := .int .u64 a.toNat) (y_move rfl) rfl ?_
 refine s_y (v := .int .u64 b.toNat) (y_move rfl) rfl ?_
 refine s_y (v := .int .u64 ((a - b).toNat)) (y_sub (a := a.toNat) (b := b.toNat) rfl rfl (u_sub _ _)) rfl ?_
 refine s_y (v := .int .u64 ((((~~~a) ||| b) &&& (a - b)).toNat)) (y_and (a := ((~~~a) ||| b).toNat) (b := (a - b).toNat) rfl rfl (u_and _ _)) rfl ?_
 refine s_y (v := .int .u64 ((((~~~a) &&& b) ||| (((~~~a) ||| b) &&& (a - b))).toNat)) (y_or (a := ((~~~a) &&& b).toNat) (b := (((~~~a) ||| b) &&& (a - b)).toNat) rfl rfl (u_or _ _)) rfl ?_
 refine s_y (v := .int .u64 (((((~~~a) &&& b) ||| (((~~~a) ||| b) &&& (a - b))) >>> 63).toNat)) (y_shr (a := (((~~~a) &&& b) ||| (((~~~a) ||| b) &&& (a - b))).toNat) (b := 63) rfl rfl (by decide) (u_shr _ 63 (by decide))) rfl ?_
 refine s_y (v := .int .u64 (((((~~~a) &&& b) ||| (((~~~a) ||| b) &&& (a - b))) >>> 63).toNat)) (y_assign rfl) rfl ?_
 refine wpL_nil ?_
 refine thenS_n ?_
 refine wpS_ret ?_
 refine fin1 (v := .int .u64 (((((~~~a) &&& b) ||| (((~~~a) ||| b) &&& (a - b))) >>> 63).toNat)) (.inr rfl) .nil Try.results216 rfl ?_
 exact fun w' hs => ⟨(by rw [ct_less]), hs⟩
theorem below_c (a b : Int64) (w : World) : Pure Try.prog 144 #[.int .i64 a.toInt, .int .i64 b.toInt] w (.int .u64 ((b64 (decide (a < b))).toNat)) := by
 refine calls_S (n := 12) (σ0 := (upd (upd fr0 0 (.int .i64 a.toInt)) 1 (.int .i64 b.toInt))) (D := []) (A := []) Try.func144 rfl Try.ntmps144 rfl (a2_fr _ _) (SH.start w) ?_
 refine wpS_seq ?_
 refine wpS_region ?_
 refine s_y (v := .int .u64 0) (y_assign rfl) rfl ?_
 refine wpL_nil ?_
 refine thenS_n ?_
 refine wpS_seq ?_
 refine wpS_region ?_
 refine s_y (v := .int .i64 a.toInt) (y_move rfl) rfl ?_
 refine s_y (v := .int .u64 (a.toUInt64.toNat)) (y_convI (a := a.toInt) rfl Try.underlying2 Try.underlying24 (iu_conv _)) rfl ?_
 refine s_y (v := .int .u64 ((a.toUInt64 ^^^ 9223372036854775808).toNat)) (y_xor (a := a.toUInt64.toNat) (b := 9223372036854775808) rfl rfl (u_xorL _ 9223372036854775808 (by decide))) rfl ?_
 refine s_y (v := .int .i64 b.toInt) (y_move rfl) rfl ?_
 refine s_y (v := .int .u64 (b.toUInt64.toNat)) (y_convI (a := b.toInt) rfl Try.underlying2 Try.underlying24 (iu_conv _)) rfl ?_
 refine s_y (v := .int .u64 ((b.toUInt64 ^^^ 9223372036854775808).toNat)) (y_xor (a := b.toUInt64.toNat) (b := 9223372036854775808) rfl rfl (u_xorL _ 9223372036854775808 (by decide))) rfl ?_
 refine s_y (v := .int .u64 ((b64 (decide ((a.toUInt64 ^^^ 9223372036854775808) < (b.toUInt64 ^^^ 9223372036854775808)))).toNat)) (y_call (args := #[.int .u64 ((a.toUInt64 ^^^ 9223372036854775808).toNat), .int .u64 ((b.toUInt64 ^^^ 9223372036854775808).toNat)]) Try.call216 (ev2 rfl rfl) (fun w hs => less_c (a.toUInt64 ^^^ 9223372036854775808) (b.toUInt64 ^^^ 9223372036854775808) w)) rfl ?_
 refine s_y (v := .int .u64 ((b64 (decide ((a.toUInt64 ^^^ 9223372036854775808) < (b.toUInt64 ^^^ 9223372036854775808)))).toNat)) (y_assign rfl) rfl ?_
 refine wpL_nil ?_
 refine thenS_n ?_
 refine wpS_ret ?_
 refine fin1 (v := .int .u64 ((b64 (decide ((a.toUInt64 ^^^ 9223372036854775808) < (b.toUInt64 ^^^ 9223372036854775808)))).toNat)) (.inr rfl) .nil Try.results144 rfl ?_
 exact fun w' hs => ⟨(by rw [ct_below_key]), hs⟩
theorem same_c (a b : UInt64) (w : World) : Pure Try.prog 143 #[.int .u64 a.toNat, .int .u64 b.toNat] w (.int .u64 ((b64 (decide (a = b))).toNat)) := by
 refine calls_S (n := 15) (σ0 := (upd (upd fr0 0 (.int .u64 a.toNat)) 1 (.int .u64 b.toNat))) (D := []) (A := []) Try.func143 rfl Try.ntmps143 rfl (a2_fr _ _) (SH.start w) ?_
 refine wpS_seq ?_
 refine wpS_region ?_
 refine s_y (v := .int .u64 0) (y_assign rfl) rfl ?_
 refine wpL_nil ?_
 refine thenS_n ?_
 refine wpS_seq ?_
 refine wpS_region ?_
 refine s_y (v := .int .u64 a.toNat) (y_move rfl) rfl ?_
 refine s_y (v := .int .u64 b.toNat) (y_move rfl) rfl ?_
 refine s_y (v := .int .u64 ((a ^^^ b).toNat)) (y_xor (a := a.toNat) (b := b.toNat) rfl rfl (u_xor _ _)) rfl ?_
 refine s_y (v := .int .u64 ((a ^^^ b).toNat)) (y_assign rfl) rfl ?_
 refine wpL_nil ?_
 refine thenS_n ?_
 refine wpS_seq ?_
 refine wpS_region ?_
 refine s_y (v := .int .u64 ((a ^^^ b).toNat)) (y_move rfl) rfl ?_
 refine s_y (v := .int .u64 ((a ^^^ b).toNat)) (y_move rfl) rfl ?_
 refine s_y (v := .int .u64 ((-(a ^^^ b)).toNat)) (y_neg (a := (a ^^^ b).toNat) rfl (u_neg _)) rfl ?_
 refine s_y (v := .int .u64 (((a ^^^ b) ||| (-(a ^^^ b))).toNat)) (y_or (a := (a ^^^ b).toNat) (b := (-(a ^^^ b)).toNat) rfl rfl (u_or _ _)) rfl ?_
 refine s_y (v := .int .u64 ((((a ^^^ b) ||| (-(a ^^^ b))) >>> 63).toNat)) (y_shr (a := ((a ^^^ b) ||| (-(a ^^^ b))).toNat) (b := 63) rfl rfl (by decide) (u_shr _ 63 (by decide))) rfl ?_
 refine s_y (v := .int .u64 (((((a ^^^ b) ||| (-(a ^^^ b))) >>> 63) ^^^ 1).toNat)) (y_xor (a := (((a ^^^ b) ||| (-(a ^^^ b))) >>> 63).toNat) (b := 1) rfl rfl (u_xorL _ 1 (by decide))) rfl ?_
 refine s_y (v := .int .u64 (((((a ^^^ b) ||| (-(a ^^^ b))) >>> 63) ^^^ 1).toNat)) (y_assign rfl) rfl ?_
 refine wpL_nil ?_
 refine thenS_n ?_
 refine wpS_ret ?_
 refine fin1 (v := .int .u64 (((((a ^^^ b) ||| (-(a ^^^ b))) >>> 63) ^^^ 1).toNat)) (.inr rfl) .nil Try.results143 rfl ?_
 exact fun w' hs => ⟨(by rw [ct_same]), hs⟩
theorem ctpick_c (c a b : UInt64) (w : World) : Pure Try.prog 147 #[.int .u64 c.toNat, .int .u64 a.toNat, .int .u64 b.toNat] w (.int .u64 ((if c &&& 1 = 1 then a else b).toNat)) := by
 refine calls_S (n := 18) (σ0 := (upd (upd (upd fr0 0 (.int .u64 c.toNat)) 1 (.int .u64 a.toNat)) 2 (.int .u64 b.toNat))) (D := []) (A := []) Try.func147 rfl Try.ntmps147 rfl (a3_fr _ _ _) (SH.start w) ?_
 refine wpS_seq ?_
 refine wpS_region ?_
 refine s_y (v := .int .u64 0) (y_assign rfl) rfl ?_
 refine wpL_nil ?_
 refine thenS_n ?_
 refine wpS_seq ?_
 refine wpS_region ?_
 refine s_y (v := .int .u64 c.toNat) (y_move rfl) rfl ?_
 refine s_y (v := .int .u64 ((c &&& 1).toNat)) (y_and (a := c.toNat) (b := 1) rfl rfl (u_andL _ 1 (by decide))) rfl ?_
 refine s_y (v := .int .u64 ((-(c &&& 1)).toNat)) (y_neg (a := (c &&& 1).toNat) rfl (u_neg _)) rfl ?_
 refine s_y (v := .int .u64 ((-(c &&& 1)).toNat)) (y_assign rfl) rfl ?_
 refine wpL_nil ?_
 refine thenS_n ?_
 refine wpS_seq ?_
 refine wpS_region ?_
 refine s_y (v := .int .u64 a.toNat) (y_move rfl) rfl ?_
 refine s_y (v := .int .u64 ((-(c &&& 1)).toNat)) (y_move rfl) rfl ?_
 refine s_y (v := .int .u64 ((a &&& (-(c &&& 1))).toNat)) (y_and (a := a.toNat) (b := (-(c &&& 1)).toNat) rfl rfl (u_and _ _)) rfl ?_
 refine s_y (v := .int .u64 b.toNat) (y_move rfl) rfl ?_
 refine s_y (v := .int .u64 ((-(c &&& 1)).toNat)) (y_move rfl) rfl ?_
 refine s_y (v := .int .u64 ((b &&& ~~~(-(c &&& 1))).toNat)) (y_andNot (a := b.toNat) (b := (-(c &&& 1)).toNat) rfl rfl (u_andNot _ _)) rfl ?_
 refine s_y (v := .int .u64 (((a &&& (-(c &&& 1))) ||| (b &&& ~~~(-(c &&& 1)))).toNat)) (y_or (a := (a &&& (-(c &&& 1))).toNat) (b := (b &&& ~~~(-(c &&& 1))).toNat) rfl rfl (u_or _ _)) rfl ?_
 refine s_y (v := .int .u64 (((a &&& (-(c &&& 1))) ||| (b &&& ~~~(-(c &&& 1)))).toNat)) (y_assign rfl) rfl ?_
 refine wpL_nil ?_
 refine thenS_n ?_
 refine wpS_ret ?_
 refine fin1 (v := .int .u64 (((a &&& (-(c &&& 1))) ||| (b &&& ~~~(-(c &&& 1)))).toNat)) (.inr rfl) .nil Try.results147 rfl ?_
 exact fun w' hs => ⟨(by rw [ct_pick]), hs⟩
theorem bit_c (b : Bool) (w : World) : Pure Try.prog 142 #[.bool b] w (.int .u64 ((b64 b).toNat)) := by
 refine calls_S (n := 4) (σ0 := (upd fr0 0 (.bool b))) (D := []) (A := []) Try.func142 rfl Try.ntmps142 rfl (a1_fr _) (SH.start w) ?_
 refine wpS_seq ?_
 refine wpS_region ?_
 refine s_y (v := .int .u64 0) (y_assign rfl) rfl ?_
 refine wpL_nil ?_
 refine thenS_n ?_
 refine wpS_seq ?_
 refine wpS_seq ?_
 refine wpS_region ?_
 refine s_y (v := .bool b) (y_move rfl) rfl ?_
 refine wpL_nil ?_
 refine thenS_n ?_
 refine wpS_cond (t := b) rfl (fun b1 => ?_) (fun b1 => ?_)
 ·
  subst b1
  refine wpS_seq ?_
  refine wpS_region ?_
  refine s_y (v := .int .u64 1) (y_assign rfl) rfl ?_
  refine wpL_nil ?_
  refine thenS_n ?_
  refine wpS_ret ?_
  refine thenS_r ?_
  refine fin1 (v := .int .u64 1) (.inr rfl) .nil Try.results142 rfl ?_
  exact fun w' hs => ⟨rfl, hs⟩
 ·
  subst b1
  refine wpS_skip ?_
  refine thenS_n ?_
  refine wpS_seq ?_
  refine wpS_region ?_
  refine s_y (v := .int .u64 0) (y_assign rfl) rfl ?_
  refine wpL_nil ?_
  refine thenS_n ?_
  refine wpS_ret ?_
  refine fin1 (v := .int .u64 0) (.inr rfl) .nil Try.results142 rfl ?_
  exact fun w' hs => ⟨rfl, hs⟩
def pickR (c : UInt64) (a b : Rec) : Rec := if c &&& 1 = 1 then a else b
theorem pickR_eq (c : UInt64) (a b : Rec) : (.agg #[.bool (decide ((if c &&& 1 = 1 then b64 a.dead else b64 b.dead) = 1)), .int .i64 (if c &&& 1 = 1 then a.key else b.key).toInt, .int .i64 (if c &&& 1 = 1 then a.value else b.value).toInt, .int .i64 (if c &&& 1 = 1 then a.seq else b.seq).toInt] : Value) =
    .agg #[.bool (pickR c a b).dead, .int .i64 (pickR c a b).key.toInt, .int .i64 (pickR c a b).value.toInt, .int .i64 (pickR c a b).seq.toInt] := by
  unfold pickR
  split <;> simp [b64_one]
theorem ahead_c (a b : Rec) (w : World) : Pure Try.prog 43 #[.agg #[.bool a.dead, .int .i64 a.key.toInt, .int .i64 a.value.toInt, .int .i64 a.seq.toInt], .agg #[.bool b.dead, .int .i64 b.key.toInt, .int .i64 b.value.toInt, .int .i64 b.seq.toInt]] w (.int .u64 ((b64 (ahead a b)).toNat)) := by
 refine calls_S (n := 23) (σ0 := (upd (upd fr0 0 (.agg #[.bool a.dead, .int .i64 a.key.toInt, .int .i64 a.value.toInt, .int .i64 a.seq.toInt])) 1 (.agg #[.bool b.dead, .int .i64 b.key.toInt, .int .i64 b.value.toInt, .int .i64 b.seq.toInt]))) (D := []) (A := []) Try.func43 rfl Try.ntmps43 rfl (a2_fr _ _) (SH.start w) ?_
 refine wpS_seq ?_
 refine wpS_region ?_
 refine s_e rfl ?_
 refine e_box (v := .agg #[.bool a.dead, .int .i64 a.key.toInt, .int .i64 a.value.toInt, .int .i64 a.seq.toInt]) (l := [.bool a.dead, .int .i64 a.key.toInt, .int .i64 a.value.toInt, .int .i64 a.seq.toInt]) rfl rfl ?_
 intro b_1
 refine s_e rfl ?_
 refine e_box (v := .agg #[.bool b.dead, .int .i64 b.key.toInt, .int .i64 b.value.toInt, .int .i64 b.seq.toInt]) (l := [.bool b.dead, .int .i64 b.key.toInt, .int .i64 b.value.toInt, .int .i64 b.seq.toInt]) rfl rfl ?_
 intro b_2
 refine s_y (v := .int .u64 0) (y_assign rfl) rfl ?_
 refine wpL_nil ?_
 refine thenS_n ?_
 refine wpS_seq ?_
 refine wpS_lex (by kernel_rfl) (by kernel_rfl) ?_
 refine x_y (v := .pointer (some ⟨b_1, 0, none⟩)) (y_fieldAddr (o' := 0) rfl Try.underlying23 rfl Try.sizeOf4 (by decide) rfl) rfl ?_
 refine x_y (v := .bool a.dead) (y_load1 rfl Try.isAgg4 (own1 (.t .h) rfl)) rfl ?_
 refine x_y (v := .int .u64 ((b64 a.dead).toNat)) (y_call (args := #[.bool a.dead]) Try.call142 (ev1 rfl) (fun w hs => bit_c a.dead w)) rfl ?_
 refine x_y (v := .pointer (some ⟨b_2, 0, none⟩)) (y_fieldAddr (o' := 0) rfl Try.underlying23 rfl Try.sizeOf4 (by decide) rfl) rfl ?_
 refine x_y (v := .bool b.dead) (y_load1 rfl Try.isAgg4 (own1 .h rfl)) rfl ?_
 refine x_y (v := .int .u64 ((b64 b.dead).toNat)) (y_call (args := #[.bool b.dead]) Try.call142 (ev1 rfl) (fun w hs => bit_c b.dead w)) rfl ?_
 refine x_y (v := .int .u64 ((b64 a.dead).toNat)) (y_assign rfl) rfl ?_
 refine x_y (v := .int .u64 ((b64 b.dead).toNat)) (y_assign rfl) rfl ?_
 refine x_nil ?_
 refine thenS_n ?_
 refine wpS_seq ?_
 refine wpS_region ?_
 refine s_y (v := .int .u64 ((b64 a.dead).toNat)) (y_move rfl) rfl ?_
 refine s_y (v := .int .u64 (((b64 a.dead) ^^^ 1).toNat)) (y_xor (a := (b64 a.dead).toNat) (b := 1) rfl rfl (u_xorL _ 1 (by decide))) rfl ?_
 refine s_y (v := .int .u64 ((b64 b.dead).toNat)) (y_move rfl) rfl ?_
 refine s_y (v := .pointer (some ⟨b_1, 1, none⟩)) (y_fieldAddr (o' := 1) rfl Try.underlying23 rfl Try.sizeOf2 (by decide) rfl) rfl ?_
 refine s_y (v := .int .i64 a.key.toInt) (y_load1 rfl Try.isAgg2 (own1 (.t .h) rfl)) rfl ?_
 refine s_y (v := .pointer (some ⟨b_2, 1, none⟩)) (y_fieldAddr (o' := 1) rfl Try.underlying23 rfl Try.sizeOf2 (by decide) rfl) rfl ?_
 refine s_y (v := .int .i64 b.key.toInt) (y_load1 rfl Try.isAgg2 (own1 .h rfl)) rfl ?_
 refine s_y (v := .int .u64 ((b64 (decide (a.key < b.key))).toNat)) (y_call (args := #[.int .i64 a.key.toInt, .int .i64 b.key.toInt]) Try.call144 (ev2 rfl rfl) (fun w hs => below_c a.key b.key w)) rfl ?_
 refine s_y (v := .int .u64 (((b64 b.dead) ||| (b64 (decide (a.key < b.key)))).toNat)) (y_or (a := (b64 b.dead).toNat) (b := (b64 (decide (a.key < b.key))).toNat) rfl rfl (u_or _ _)) rfl ?_
 refine s_y (v := .int .u64 ((((b64 a.dead) ^^^ 1) &&& ((b64 b.dead) ||| (b64 (decide (a.key < b.key))))).toNat)) (y_and (a := ((b64 a.dead) ^^^ 1).toNat) (b := ((b64 b.dead) ||| (b64 (decide (a.key < b.key)))).toNat) rfl rfl (u_and _ _)) rfl ?_
 refine s_y (v := .int .u64 ((((b64 a.dead) ^^^ 1) &&& ((b64 b.dead) ||| (b64 (decide (a.key < b.key))))).toNat)) (y_assign rfl) rfl ?_
 refine wpL_nil ?_
 refine thenS_n ?_
 refine wpS_ret ?_
 refine fin1 (v := .int .u64 ((((b64 a.dead) ^^^ 1) &&& ((b64 b.dead) ||| (b64 (decide (a.key < b.key))))).toNat)) (.inr rfl) .nil Try.results43 rfl ?_
 exact fun w' hs => ⟨(by rw [ahead_bits]), hs⟩
theorem before_c (a b : Rec) (w : World) : Pure Try.prog 42 #[.agg #[.bool a.dead, .int .i64 a.key.toInt, .int .i64 a.value.toInt, .int .i64 a.seq.toInt], .agg #[.bool b.dead, .int .i64 b.key.toInt, .int .i64 b.value.toInt, .int .i64 b.seq.toInt]] w (.int .u64 ((b64 (before a b)).toNat)) := by
 refine calls_S (n := 36) (σ0 := (upd (upd fr0 0 (.agg #[.bool a.dead, .int .i64 a.key.toInt, .int .i64 a.value.toInt, .int .i64 a.seq.toInt])) 1 (.agg #[.bool b.dead, .int .i64 b.key.toInt, .int .i64 b.value.toInt, .int .i64 b.seq.toInt]))) (D := []) (A := []) Try.func42 rfl Try.ntmps42 rfl (a2_fr _ _) (SH.start w) ?_
 refine wpS_seq ?_
 refine wpS_region ?_
 refine s_e rfl ?_
 refine e_box (v := .agg #[.bool a.dead, .int .i64 a.key.toInt, .int .i64 a.value.toInt, .int .i64 a.seq.toInt]) (l := [.bool a.dead, .int .i64 a.key.toInt, .int .i64 a.value.toInt, .int .i64 a.seq.toInt]) rfl rfl ?_
 intro b_1
 refine s_e rfl ?_
 refine e_box (v := .agg #[.bool b.dead, .int .i64 b.key.toInt, .int .i64 b.value.toInt, .int .i64 b.seq.toInt]) (l := [.bool b.dead, .int .i64 b.key.toInt, .int .i64 b.value.toInt, .int .i64 b.seq.toInt]) rfl rfl ?_
 intro b_2
 refine s_y (v := .int .u64 0) (y_assign rfl) rfl ?_
 refine wpL_nil ?_
 refine thenS_n ?_
 refine wpS_seq ?_
 refine wpS_lex (by kernel_rfl) (by kernel_rfl) ?_
 refine x_y (v := .pointer (some ⟨b_1, 0, none⟩)) (y_fieldAddr (o' := 0) rfl Try.underlying23 rfl Try.sizeOf4 (by decide) rfl) rfl ?_
 refine x_y (v := .bool a.dead) (y_load1 rfl Try.isAgg4 (own1 (.t .h) rfl)) rfl ?_
 refine x_y (v := .int .u64 ((b64 a.dead).toNat)) (y_call (args := #[.bool a.dead]) Try.call142 (ev1 rfl) (fun w hs => bit_c a.dead w)) rfl ?_
 refine x_y (v := .int .u64 (((b64 a.dead) ^^^ 1).toNat)) (y_xor (a := (b64 a.dead).toNat) (b := 1) rfl rfl (u_xorL _ 1 (by decide))) rfl ?_
 refine x_y (v := .pointer (some ⟨b_2, 0, none⟩)) (y_fieldAddr (o' := 0) rfl Try.underlying23 rfl Try.sizeOf4 (by decide) rfl) rfl ?_
 refine x_y (v := .bool b.dead) (y_load1 rfl Try.isAgg4 (own1 .h rfl)) rfl ?_
 refine x_y (v := .int .u64 ((b64 b.dead).toNat)) (y_call (args := #[.bool b.dead]) Try.call142 (ev1 rfl) (fun w hs => bit_c b.dead w)) rfl ?_
 refine x_y (v := .int .u64 (((b64 b.dead) ^^^ 1).toNat)) (y_xor (a := (b64 b.dead).toNat) (b := 1) rfl rfl (u_xorL _ 1 (by decide))) rfl ?_
 refine x_y (v := .int .u64 ((((b64 a.dead) ^^^ 1) &&& ((b64 b.dead) ^^^ 1)).toNat)) (y_and (a := ((b64 a.dead) ^^^ 1).toNat) (b := ((b64 b.dead) ^^^ 1).toNat) rfl rfl (u_and _ _)) rfl ?_
 refine x_y (v := .int .u64 ((((b64 a.dead) ^^^ 1) &&& ((b64 b.dead) ^^^ 1)).toNat)) (y_assign rfl) rfl ?_
 refine x_nil ?_
 refine thenS_n ?_
 refine wpS_seq ?_
 refine wpS_lex (by kernel_rfl) (by kernel_rfl) ?_
 refine x_y (v := .pointer (some ⟨b_1, 1, none⟩)) (y_fieldAddr (o' := 1) rfl Try.underlying23 rfl Try.sizeOf2 (by decide) rfl) rfl ?_
 refine x_y (v := .int .i64 a.key.toInt) (y_load1 rfl Try.isAgg2 (own1 (.t .h) rfl)) rfl ?_
 refine x_y (v := .int .u64 (a.key.toUInt64.toNat)) (y_convI (a := a.key.toInt) rfl Try.underlying2 Try.underlying24 (iu_conv _)) rfl ?_
 refine x_y (v := .pointer (some ⟨b_2, 1, none⟩)) (y_fieldAddr (o' := 1) rfl Try.underlying23 rfl Try.sizeOf2 (by decide) rfl) rfl ?_
 refine x_y (v := .int .i64 b.key.toInt) (y_load1 rfl Try.isAgg2 (own1 .h rfl)) rfl ?_
 refine x_y (v := .int .u64 (b.key.toUInt64.toNat)) (y_convI (a := b.key.toInt) rfl Try.underlying2 Try.underlying24 (iu_conv _)) rfl ?_
 refine x_y (v := .int .u64 ((b64 (decide (a.key.toUInt64 = b.key.toUInt64))).toNat)) (y_call (args := #[.int .u64 (a.key.toUInt64.toNat), .int .u64 (b.key.toUInt64.toNat)]) Try.call143 (ev2 rfl rfl) (fun w hs => same_c a.key.toUInt64 b.key.toUInt64 w)) rfl ?_
 refine x_y (v := .pointer (some ⟨b_1, 3, none⟩)) (y_fieldAddr (o' := 3) rfl Try.underlying23 rfl Try.sizeOf2 (by decide) rfl) rfl ?_
 refine x_y (v := .int .i64 a.seq.toInt) (y_load1 rfl Try.isAgg2 (own1 (.t .h) rfl)) rfl ?_
 refine x_y (v := .pointer (some ⟨b_2, 3, none⟩)) (y_fieldAddr (o' := 3) rfl Try.underlying23 rfl Try.sizeOf2 (by decide) rfl) rfl ?_
 refine x_y (v := .int .i64 b.seq.toInt) (y_load1 rfl Try.isAgg2 (own1 .h rfl)) rfl ?_
 refine x_y (v := .int .u64 ((b64 (decide (a.seq < b.seq))).toNat)) (y_call (args := #[.int .i64 a.seq.toInt, .int .i64 b.seq.toInt]) Try.call144 (ev2 rfl rfl) (fun w hs => below_c a.seq b.seq w)) rfl ?_
 refine x_y (v := .int .u64 (((b64 (decide (a.key.toUInt64 = b.key.toUInt64))) &&& (b64 (decide (a.seq < b.seq)))).toNat)) (y_and (a := (b64 (decide (a.key.toUInt64 = b.key.toUInt64))).toNat) (b := (b64 (decide (a.seq < b.seq))).toNat) rfl rfl (u_and _ _)) rfl ?_
 refine x_y (v := .int .u64 (((b64 (decide (a.key.toUInt64 = b.key.toUInt64))) &&& (b64 (decide (a.seq < b.seq)))).toNat)) (y_assign rfl) rfl ?_
 refine x_nil ?_
 refine thenS_n ?_
 refine wpS_seq ?_
 refine wpS_region ?_
 refine s_y (v := .agg #[.bool a.dead, .int .i64 a.key.toInt, .int .i64 a.value.toInt, .int .i64 a.seq.toInt]) (y_loadN rfl Try.isAgg23 Try.sizeOf23 (ownN (.t .h) rfl)) rfl ?_
 refine s_y (v := .agg #[.bool b.dead, .int .i64 b.key.toInt, .int .i64 b.value.toInt, .int .i64 b.seq.toInt]) (y_loadN rfl Try.isAgg23 Try.sizeOf23 (ownN .h rfl)) rfl ?_
 refine s_y (v := .int .u64 ((b64 (ahead a b)).toNat)) (y_call (args := #[.agg #[.bool a.dead, .int .i64 a.key.toInt, .int .i64 a.value.toInt, .int .i64 a.seq.toInt], .agg #[.bool b.dead, .int .i64 b.key.toInt, .int .i64 b.value.toInt, .int .i64 b.seq.toInt]]) Try.call43 (ev2 rfl rfl) (fun w hs => ahead_c a b w)) rfl ?_
 refine s_y (v := .int .u64 ((((b64 a.dead) ^^^ 1) &&& ((b64 b.dead) ^^^ 1)).toNat)) (y_move rfl) rfl ?_
 refine s_y (v := .int .u64 (((b64 (decide (a.key.toUInt64 = b.key.toUInt64))) &&& (b64 (decide (a.seq < b.seq)))).toNat)) (y_move rfl) rfl ?_
 refine s_y (v := .int .u64 (((((b64 a.dead) ^^^ 1) &&& ((b64 b.dead) ^^^ 1)) &&& ((b64 (decide (a.key.toUInt64 = b.key.toUInt64))) &&& (b64 (decide (a.seq < b.seq))))).toNat)) (y_and (a := (((b64 a.dead) ^^^ 1) &&& ((b64 b.dead) ^^^ 1)).toNat) (b := ((b64 (decide (a.key.toUInt64 = b.key.toUInt64))) &&& (b64 (decide (a.seq < b.seq)))).toNat) rfl rfl (u_and _ _)) rfl ?_
 refine s_y (v := .int .u64 (((b64 (ahead a b)) ||| ((((b64 a.dead) ^^^ 1) &&& ((b64 b.dead) ^^^ 1)) &&& ((b64 (decide (a.key.toUInt64 = b.key.toUInt64))) &&& (b64 (decide (a.seq < b.seq)))))).toNat)) (y_or (a := (b64 (ahead a b)).toNat) (b := ((((b64 a.dead) ^^^ 1) &&& ((b64 b.dead) ^^^ 1)) &&& ((b64 (decide (a.key.toUInt64 = b.key.toUInt64))) &&& (b64 (decide (a.seq < b.seq))))).toNat) rfl rfl (u_or _ _)) rfl ?_
 refine s_y (v := .int .u64 (((b64 (ahead a b)) ||| ((((b64 a.dead) ^^^ 1) &&& ((b64 b.dead) ^^^ 1)) &&& ((b64 (decide (a.key.toUInt64 = b.key.toUInt64))) &&& (b64 (decide (a.seq < b.seq)))))).toNat)) (y_assign rfl) rfl ?_
 refine wpL_nil ?_
 refine thenS_n ?_
 refine wpS_ret ?_
 refine fin1 (v := .int .u64 (((b64 (ahead a b)) ||| ((((b64 a.dead) ^^^ 1) &&& ((b64 b.dead) ^^^ 1)) &&& ((b64 (decide (a.key.toUInt64 = b.key.toUInt64))) &&& (b64 (decide (a.seq < b.seq)))))).toNat)) (.inr rfl) .nil Try.results42 rfl ?_
 exact fun w' hs => ⟨(by rw [before_bits]), hs⟩
theorem dead_c (w : World) : Pure Try.prog 49 #[] w (.agg #[.bool deadR.dead, .int .i64 deadR.key.toInt, .int .i64 deadR.value.toInt, .int .i64 deadR.seq.toInt]) := by
 refine calls_S (n := 2) (σ0 := fr0) (D := []) (A := []) Try.func49 rfl Try.ntmps49 rfl a0_fr (SH.start w) ?_
 refine wpS_seq ?_
 refine wpS_region ?_
 refine s_e rfl ?_
 refine e_alloc (l := [.bool false, .int .i64 0, .int .i64 0, .int .i64 0]) Try.zeroValue23 rfl ?_
 intro b_1
 refine wpL_nil ?_
 refine thenS_n ?_
 refine wpS_seq ?_
 refine wpS_region ?_
 refine s_y (v := .agg #[.bool true, .int .i64 0, .int .i64 0, .int .i64 0]) (y_buildL (m := [(0, .bool true)]) (vs := #[.bool true, .int .i64 0, .int .i64 0, .int .i64 0]) (evc rfl evn) (fun w => by kernel_rfl)) rfl ?_
 refine s_e0 ?_
 refine e_store (vs := [.bool true, .int .i64 0, .int .i64 0, .int .i64 0]) (l' := [.bool true, .int .i64 0, .int .i64 0, .int .i64 0]) rfl rfl rfl rfl Try.sizeOf23 .h (Nat.le_of_ble_eq_true rfl) rfl ?_
 refine wpL_nil ?_
 refine thenS_n ?_
 refine wpS_ret ?_
 refine fin1' (M := [cel b_1 23 [.bool true, .int .i64 0, .int .i64 0, .int .i64 0]]) (.inr rfl) (.p .h .nil) Try.results49 (rvC (vs := [.bool true, .int .i64 0, .int .i64 0, .int .i64 0]) rfl Try.isAgg23 Try.sizeOf23 (fun w hs => ownN .h rfl w hs)) ?_
 intro w' hs; exact ⟨rfl, SH.dropAll (L := []) [_] hs⟩
theorem refdead_c (w : World) : Pure Try.prog 178 #[] w (.agg #[.bool deadR.dead, .int .i64 deadR.key.toInt, .int .i64 deadR.value.toInt, .int .i64 deadR.seq.toInt]) := by
 refine calls_S (n := 2) (σ0 := fr0) (D := []) (A := []) Try.func178 rfl Try.ntmps178 rfl a0_fr (SH.start w) ?_
 refine wpS_seq ?_
 refine wpS_region ?_
 refine s_e rfl ?_
 refine e_alloc (l := [.bool false, .int .i64 0, .int .i64 0, .int .i64 0]) Try.zeroValue23 rfl ?_
 intro b_1
 refine wpL_nil ?_
 refine thenS_n ?_
 refine wpS_seq ?_
 refine wpS_region ?_
 refine s_y (v := .agg #[.bool true, .int .i64 0, .int .i64 0, .int .i64 0]) (y_buildL (m := [(0, .bool true)]) (vs := #[.bool true, .int .i64 0, .int .i64 0, .int .i64 0]) (evc rfl evn) (fun w => by kernel_rfl)) rfl ?_
 refine s_e0 ?_
 refine e_store (vs := [.bool true, .int .i64 0, .int .i64 0, .int .i64 0]) (l' := [.bool true, .int .i64 0, .int .i64 0, .int .i64 0]) rfl rfl rfl rfl Try.sizeOf23 .h (Nat.le_of_ble_eq_true rfl) rfl ?_
 refine wpL_nil ?_
 refine thenS_n ?_
 refine wpS_ret ?_
 refine fin1' (M := [cel b_1 23 [.bool true, .int .i64 0, .int .i64 0, .int .i64 0]]) (.inr rfl) (.p .h .nil) Try.results178 (rvC (vs := [.bool true, .int .i64 0, .int .i64 0, .int .i64 0]) rfl Try.isAgg23 Try.sizeOf23 (fun w hs => ownN .h rfl w hs)) ?_
 intro w' hs; exact ⟨rfl, SH.dropAll (L := []) [_] hs⟩
theorem pick1_c (x y : Int64) (c : UInt64) (b : Nat) (w : World) (hc : w.cell? ⟨b, 0, none⟩ = some (.int .u64 c.toNat)) : Pure Try.prog 146 #[.int .i64 x.toInt, .int .i64 y.toInt, .pointer (some ⟨b, 0, none⟩)] w (.int .i64 ((if c &&& 1 = 1 then x else y).toInt)) := by
 refine calls_S (n := 13) (σ0 := (upd (upd (upd fr0 0 (.int .i64 x.toInt)) 1 (.int .i64 y.toInt)) 2 (.pointer (some ⟨b, 0, none⟩)))) (D := []) (A := []) Try.func146 rfl Try.ntmps146 rfl (a3_fr _ _ _) (SH.start w) ?_
 refine wpS_seq ?_
 refine wpS_region ?_
 refine s_y (v := .int .i64 0) (y_assign rfl) rfl ?_
 refine wpL_nil ?_
 refine thenS_n ?_
 refine wpS_seq ?_
 refine wpS_region ?_
 refine s_y (v := .int .u64 c.toNat) (y_load1 rfl Try.isAgg24 (old1 hc (by simp))) rfl ?_
 refine s_y (v := .int .i64 x.toInt) (y_move rfl) rfl ?_
 refine s_y (v := .int .u64 (x.toUInt64.toNat)) (y_convI (a := x.toInt) rfl Try.underlying2 Try.underlying24 (iu_conv _)) rfl ?_
 refine s_y (v := .int .i64 y.toInt) (y_move rfl) rfl ?_
 refine s_y (v := .int .u64 (y.toUInt64.toNat)) (y_convI (a := y.toInt) rfl Try.underlying2 Try.underlying24 (iu_conv _)) rfl ?_
 refine s_y (v := .int .u64 ((if c &&& 1 = 1 then x.toUInt64 else y.toUInt64).toNat)) (y_call (args := #[.int .u64 c.toNat, .int .u64 (x.toUInt64.toNat), .int .u64 (y.toUInt64.toNat)]) Try.call147 (ev3 rfl rfl rfl) (fun w hs => ctpick_c c x.toUInt64 y.toUInt64 w)) rfl ?_
 refine s_y (v := .int .i64 (((if c &&& 1 = 1 then x.toUInt64 else y.toUInt64).toInt64).toInt)) (y_convI (a := (if c &&& 1 = 1 then x.toUInt64 else y.toUInt64).toNat) rfl Try.underlying24 Try.underlying2 (ui_conv _)) rfl ?_
 refine s_y (v := .int .i64 (((if c &&& 1 = 1 then x.toUInt64 else y.toUInt64).toInt64).toInt)) (y_assign rfl) rfl ?_
 refine wpL_nil ?_
 refine thenS_n ?_
 refine wpS_ret ?_
 refine fin1 (v := .int .i64 (((if c &&& 1 = 1 then x.toUInt64 else y.toUInt64).toInt64).toInt)) (.inr rfl) .nil Try.results146 rfl ?_
 exact fun w' hs => ⟨(by rw [pick_i64]), hs⟩
theorem pick_c (c : UInt64) (a b : Rec) (w : World) : Pure Try.prog 47 #[.int .u64 c.toNat, .agg #[.bool a.dead, .int .i64 a.key.toInt, .int .i64 a.value.toInt, .int .i64 a.seq.toInt], .agg #[.bool b.dead, .int .i64 b.key.toInt, .int .i64 b.value.toInt, .int .i64 b.seq.toInt]] w (.agg #[.bool ((pickR c a b).dead), .int .i64 (((pickR c a b).key).toInt), .int .i64 (((pickR c a b).value).toInt), .int .i64 (((pickR c a b).seq).toInt)]) := by
 refine calls_S (n := 37) (σ0 := (upd (upd (upd fr0 0 (.int .u64 c.toNat)) 1 (.agg #[.bool a.dead, .int .i64 a.key.toInt, .int .i64 a.value.toInt, .int .i64 a.seq.toInt])) 2 (.agg #[.bool b.dead, .int .i64 b.key.toInt, .int .i64 b.value.toInt, .int .i64 b.seq.toInt]))) (D := []) (A := []) Try.func47 rfl Try.ntmps47 rfl (a3_fr _ _ _) (SH.start w) ?_
 refine wpS_seq ?_
 refine wpS_region ?_
 refine s_e rfl ?_
 refine e_box (v := .int .u64 c.toNat) (l := [.int .u64 c.toNat]) rfl rfl ?_
 intro b_1
 refine s_e rfl ?_
 refine e_box (v := .agg #[.bool a.dead, .int .i64 a.key.toInt, .int .i64 a.value.toInt, .int .i64 a.seq.toInt]) (l := [.bool a.dead, .int .i64 a.key.toInt, .int .i64 a.value.toInt, .int .i64 a.seq.toInt]) rfl rfl ?_
 intro b_2
 refine s_e rfl ?_
 refine e_box (v := .agg #[.bool b.dead, .int .i64 b.key.toInt, .int .i64 b.value.toInt, .int .i64 b.seq.toInt]) (l := [.bool b.dead, .int .i64 b.key.toInt, .int .i64 b.value.toInt, .int .i64 b.seq.toInt]) rfl rfl ?_
 intro b_3
 refine s_e rfl ?_
 refine e_alloc (l := [.bool false, .int .i64 0, .int .i64 0, .int .i64 0]) Try.zeroValue23 rfl ?_
 intro b_4
 refine wpL_nil ?_
 refine thenS_n ?_
 refine wpS_seq ?_
 refine wpS_region ?_
 refine s_y (v := .func (.func 146) #[] #[.pointer (some ⟨b_1, 0, none⟩)]) (y_makeFunc (a := #[]) (b := #[.pointer (some ⟨b_1, 0, none⟩)]) ev0 (ev1 rfl)) rfl ?_
 refine s_y (v := .func (.func 146) #[] #[.pointer (some ⟨b_1, 0, none⟩)]) (y_assign rfl) rfl ?_
 refine wpL_nil ?_
 refine thenS_n ?_
 refine wpS_seq ?_
 refine wpS_any [28] (by kernel_rfl) ?_
 refine anyS_take (i := 0) rfl (by kernel_rfl) (by kernel_rfl) (by kernel_rfl) (by kernel_rfl) (Yq.of (v := .int .u64 c.toNat) (y_load1 rfl Try.isAgg24 (own1 (.t (.t (.t .h))) rfl)) rfl) (.p .h (.p .h (.p .h (.p .h .nil)))) ?_
 refine anyS_take (i := 1) rfl (by kernel_rfl) (by kernel_rfl) (by kernel_rfl) (by kernel_rfl) (Yq.of (v := .pointer (some ⟨b_2, 0, none⟩)) (y_fieldAddr (o' := 0) rfl Try.underlying23 rfl Try.sizeOf4 (by decide) rfl) rfl) (.p .h (.p .h (.p .h (.p .h .nil)))) ?_
 refine anyS_take (i := 2) rfl (by kernel_rfl) (by kernel_rfl) (by kernel_rfl) (by kernel_rfl) (Yq.of (v := .bool a.dead) (y_load1 rfl Try.isAgg4 (own1 (.t (.t .h)) rfl)) rfl) (.p .h (.p .h (.p .h (.p .h .nil)))) ?_
 refine anyS_take (i := 3) rfl (by kernel_rfl) (by kernel_rfl) (by kernel_rfl) (by kernel_rfl) (Yq.of (v := .int .u64 ((b64 a.dead).toNat)) (y_call (args := #[.bool a.dead]) Try.call142 (ev1 rfl) (fun w hs => bit_c a.dead w)) rfl) (.p .h (.p .h (.p .h (.p .h .nil)))) ?_
 refine anyS_take (i := 4) rfl (by kernel_rfl) (by kernel_rfl) (by kernel_rfl) (by kernel_rfl) (Yq.of (v := .pointer (some ⟨b_3, 0, none⟩)) (y_fieldAddr (o' := 0) rfl Try.underlying23 rfl Try.sizeOf4 (by decide) rfl) rfl) (.p .h (.p .h (.p .h (.p .h .nil)))) ?_
 refine anyS_take (i := 5) rfl (by kernel_rfl) (by kernel_rfl) (by kernel_rfl) (by kernel_rfl) (Yq.of (v := .bool b.dead) (y_load1 rfl Try.isAgg4 (own1 (.t .h) rfl)) rfl) (.p .h (.p .h (.p .h (.p .h .nil)))) ?_
 refine anyS_take (i := 6) rfl (by kernel_rfl) (by kernel_rfl) (by kernel_rfl) (by kernel_rfl) (Yq.of (v := .int .u64 ((b64 b.dead).toNat)) (y_call (args := #[.bool b.dead]) Try.call142 (ev1 rfl) (fun w hs => bit_c b.dead w)) rfl) (.p .h (.p .h (.p .h (.p .h .nil)))) ?_
 refine anyS_take (i := 7) rfl (by kernel_rfl) (by kernel_rfl) (by kernel_rfl) (by kernel_rfl) (Yq.of (v := .int .u64 ((if c &&& 1 = 1 then b64 a.dead else b64 b.dead).toNat)) (y_call (args := #[.int .u64 c.toNat, .int .u64 ((b64 a.dead).toNat), .int .u64 ((b64 b.dead).toNat)]) Try.call147 (ev3 rfl rfl rfl) (fun w hs => ctpick_c c (b64 a.dead) (b64 b.dead) w)) rfl) (.p .h (.p .h (.p .h (.p .h .nil)))) ?_
 refine anyS_take (i := 8) rfl (by kernel_rfl) (by kernel_rfl) (by kernel_rfl) (by kernel_rfl) (Yq.of (v := .bool (decide ((if c &&& 1 = 1 then b64 a.dead else b64 b.dead) = 1))) (y_eql (a := (if c &&& 1 = 1 then b64 a.dead else b64 b.dead).toNat) (b := 1) (c := decide ((if c &&& 1 = 1 then b64 a.dead else b64 b.dead) = 1)) rfl rfl (u_eqlL _ 1 (by decide))) rfl) (.p .h (.p .h (.p .h (.p .h .nil)))) ?_
 refine anyS_take (i := 9) rfl (by kernel_rfl) (by kernel_rfl) (by kernel_rfl) (by kernel_rfl) (Yq.of (v := .func (.func 146) #[] #[.pointer (some ⟨b_1, 0, none⟩)]) (y_move rfl) rfl) (.p .h (.p .h (.p .h (.p .h .nil)))) ?_
 refine anyS_take (i := 10) rfl (by kernel_rfl) (by kernel_rfl) (by kernel_rfl) (by kernel_rfl) (Yq.of (v := .pointer (some ⟨b_2, 1, none⟩)) (y_fieldAddr (o' := 1) rfl Try.underlying23 rfl Try.sizeOf2 (by decide) rfl) rfl) (.p .h (.p .h (.p .h (.p .h .nil)))) ?_
 refine anyS_take (i := 11) rfl (by kernel_rfl) (by kernel_rfl) (by kernel_rfl) (by kernel_rfl) (Yq.of (v := .int .i64 a.key.toInt) (y_load1 rfl Try.isAgg2 (own1 (.t (.t .h)) rfl)) rfl) (.p .h (.p .h (.p .h (.p .h .nil)))) ?_
 refine anyS_take (i := 12) rfl (by kernel_rfl) (by kernel_rfl) (by kernel_rfl) (by kernel_rfl) (Yq.of (v := .pointer (some ⟨b_3, 1, none⟩)) (y_fieldAddr (o' := 1) rfl Try.underlying23 rfl Try.sizeOf2 (by decide) rfl) rfl) (.p .h (.p .h (.p .h (.p .h .nil)))) ?_
 refine anyS_take (i := 13) rfl (by kernel_rfl) (by kernel_rfl) (by kernel_rfl) (by kernel_rfl) (Yq.of (v := .int .i64 b.key.toInt) (y_load1 rfl Try.isAgg2 (own1 (.t .h) rfl)) rfl) (.p .h (.p .h (.p .h (.p .h .nil)))) ?_
 refine anyS_take (i := 14) rfl (by kernel_rfl) (by kernel_rfl) (by kernel_rfl) (by kernel_rfl) (Yq.of (v := .int .i64 ((if c &&& 1 = 1 then a.key else b.key).toInt)) (y_callV (cap := #[.pointer (some ⟨b_1, 0, none⟩)]) (args := #[.int .i64 a.key.toInt, .int .i64 b.key.toInt]) (args' := #[.int .i64 a.key.toInt, .int .i64 b.key.toInt, .pointer (some ⟨b_1, 0, none⟩)]) rfl Try.call146 (ev2 rfl rfl) rfl (fun w hs => pick1_c a.key b.key c b_1 w (own1 (.t (.t (.t .h))) rfl w hs))) rfl) (.p .h (.p .h (.p .h (.p .h .nil)))) ?_
 refine anyS_take (i := 15) rfl (by kernel_rfl) (by kernel_rfl) (by kernel_rfl) (by kernel_rfl) (Yq.of (v := .func (.func 146) #[] #[.pointer (some ⟨b_1, 0, none⟩)]) (y_move rfl) rfl) (.p .h (.p .h (.p .h (.p .h .nil)))) ?_
 refine anyS_take (i := 16) rfl (by kernel_rfl) (by kernel_rfl) (by kernel_rfl) (by kernel_rfl) (Yq.of (v := .pointer (some ⟨b_2, 2, none⟩)) (y_fieldAddr (o' := 2) rfl Try.underlying23 rfl Try.sizeOf2 (by decide) rfl) rfl) (.p .h (.p .h (.p .h (.p .h .nil)))) ?_
 refine anyS_take (i := 17) rfl (by kernel_rfl) (by kernel_rfl) (by kernel_rfl) (by kernel_rfl) (Yq.of (v := .int .i64 a.value.toInt) (y_load1 rfl Try.isAgg2 (own1 (.t (.t .h)) rfl)) rfl) (.p .h (.p .h (.p .h (.p .h .nil)))) ?_
 refine anyS_take (i := 18) rfl (by kernel_rfl) (by kernel_rfl) (by kernel_rfl) (by kernel_rfl) (Yq.of (v := .pointer (some ⟨b_3, 2, none⟩)) (y_fieldAddr (o' := 2) rfl Try.underlying23 rfl Try.sizeOf2 (by decide) rfl) rfl) (.p .h (.p .h (.p .h (.p .h .nil)))) ?_
 refine anyS_take (i := 19) rfl (by kernel_rfl) (by kernel_rfl) (by kernel_rfl) (by kernel_rfl) (Yq.of (v := .int .i64 b.value.toInt) (y_load1 rfl Try.isAgg2 (own1 (.t .h) rfl)) rfl) (.p .h (.p .h (.p .h (.p .h .nil)))) ?_
 refine anyS_take (i := 20) rfl (by kernel_rfl) (by kernel_rfl) (by kernel_rfl) (by kernel_rfl) (Yq.of (v := .int .i64 ((if c &&& 1 = 1 then a.value else b.value).toInt)) (y_callV (cap := #[.pointer (some ⟨b_1, 0, none⟩)]) (args := #[.int .i64 a.value.toInt, .int .i64 b.value.toInt]) (args' := #[.int .i64 a.value.toInt, .int .i64 b.value.toInt, .pointer (some ⟨b_1, 0, none⟩)]) rfl Try.call146 (ev2 rfl rfl) rfl (fun w hs => pick1_c a.value b.value c b_1 w (own1 (.t (.t (.t .h))) rfl w hs))) rfl) (.p .h (.p .h (.p .h (.p .h .nil)))) ?_
 refine anyS_take (i := 21) rfl (by kernel_rfl) (by kernel_rfl) (by kernel_rfl) (by kernel_rfl) (Yq.of (v := .func (.func 146) #[] #[.pointer (some ⟨b_1, 0, none⟩)]) (y_move rfl) rfl) (.p .h (.p .h (.p .h (.p .h .nil)))) ?_
 refine anyS_take (i := 22) rfl (by kernel_rfl) (by kernel_rfl) (by kernel_rfl) (by kernel_rfl) (Yq.of (v := .pointer (some ⟨b_2, 3, none⟩)) (y_fieldAddr (o' := 3) rfl Try.underlying23 rfl Try.sizeOf2 (by decide) rfl) rfl) (.p .h (.p .h (.p .h (.p .h .nil)))) ?_
 refine anyS_take (i := 23) rfl (by kernel_rfl) (by kernel_rfl) (by kernel_rfl) (by kernel_rfl) (Yq.of (v := .int .i64 a.seq.toInt) (y_load1 rfl Try.isAgg2 (own1 (.t (.t .h)) rfl)) rfl) (.p .h (.p .h (.p .h (.p .h .nil)))) ?_
 refine anyS_take (i := 24) rfl (by kernel_rfl) (by kernel_rfl) (by kernel_rfl) (by kernel_rfl) (Yq.of (v := .pointer (some ⟨b_3, 3, none⟩)) (y_fieldAddr (o' := 3) rfl Try.underlying23 rfl Try.sizeOf2 (by decide) rfl) rfl) (.p .h (.p .h (.p .h (.p .h .nil)))) ?_
 refine anyS_take (i := 25) rfl (by kernel_rfl) (by kernel_rfl) (by kernel_rfl) (by kernel_rfl) (Yq.of (v := .int .i64 b.seq.toInt) (y_load1 rfl Try.isAgg2 (own1 (.t .h) rfl)) rfl) (.p .h (.p .h (.p .h (.p .h .nil)))) ?_
 refine anyS_take (i := 26) rfl (by kernel_rfl) (by kernel_rfl) (by kernel_rfl) (by kernel_rfl) (Yq.of (v := .int .i64 ((if c &&& 1 = 1 then a.seq else b.seq).toInt)) (y_callV (cap := #[.pointer (some ⟨b_1, 0, none⟩)]) (args := #[.int .i64 a.seq.toInt, .int .i64 b.seq.toInt]) (args' := #[.int .i64 a.seq.toInt, .int .i64 b.seq.toInt, .pointer (some ⟨b_1, 0, none⟩)]) rfl Try.call146 (ev2 rfl rfl) rfl (fun w hs => pick1_c a.seq b.seq c b_1 w (own1 (.t (.t (.t .h))) rfl w hs))) rfl) (.p .h (.p .h (.p .h (.p .h .nil)))) ?_
 refine anyS_take (i := 27) rfl (by kernel_rfl) (by kernel_rfl) (by kernel_rfl) (by kernel_rfl) (Yq.of (v := .agg #[.bool (decide ((if c &&& 1 = 1 then b64 a.dead else b64 b.dead) = 1)), .int .i64 ((if c &&& 1 = 1 then a.key else b.key).toInt), .int .i64 ((if c &&& 1 = 1 then a.value else b.value).toInt), .int .i64 ((if c &&& 1 = 1 then a.seq else b.seq).toInt)]) (y_buildL (m := [(0, .bool (decide ((if c &&& 1 = 1 then b64 a.dead else b64 b.dead) = 1))), (1, .int .i64 ((if c &&& 1 = 1 then a.key else b.key).toInt)), (2, .int .i64 ((if c &&& 1 = 1 then a.value else b.value).toInt)), (3, .int .i64 ((if c &&& 1 = 1 then a.seq else b.seq).toInt))]) (vs := #[.bool (decide ((if c &&& 1 = 1 then b64 a.dead else b64 b.dead) = 1)), .int .i64 ((if c &&& 1 = 1 then a.key else b.key).toInt), .int .i64 ((if c &&& 1 = 1 then a.value else b.value).toInt), .int .i64 ((if c &&& 1 = 1 then a.seq else b.seq).toInt)]) (evc rfl (evc rfl (evc rfl (evc rfl evn)))) (fun w => by kernel_rfl)) rfl) (.p .h (.p .h (.p .h (.p .h .nil)))) ?_
 refine anyS_all (rs := [28]) (by kernel_rfl) (by simp) ?_
 intro i hi; obtain rfl := List.mem_singleton.1 hi; clear hi
 refine opS_0 rfl rfl ?_
 refine e_store (vs := [.bool (decide ((if c &&& 1 = 1 then b64 a.dead else b64 b.dead) = 1)), .int .i64 ((if c &&& 1 = 1 then a.key else b.key).toInt), .int .i64 ((if c &&& 1 = 1 then a.value else b.value).toInt), .int .i64 ((if c &&& 1 = 1 then a.seq else b.seq).toInt)]) (l' := [.bool (decide ((if c &&& 1 = 1 then b64 a.dead else b64 b.dead) = 1)), .int .i64 ((if c &&& 1 = 1 then a.key else b.key).toInt), .int .i64 ((if c &&& 1 = 1 then a.value else b.value).toInt), .int .i64 ((if c &&& 1 = 1 then a.seq else b.seq).toInt)]) rfl rfl rfl rfl Try.sizeOf23 .h (Nat.le_of_ble_eq_true rfl) rfl ?_
 refine ⟨.inl (by simp), ?_⟩
 refine anyS_done (by kernel_rfl) ?_
 refine thenS_n ?_
 refine wpS_ret ?_
 refine fin1' (M := [cel b_4 23 [.bool (decide ((if c &&& 1 = 1 then b64 a.dead else b64 b.dead) = 1)), .int .i64 ((if c &&& 1 = 1 then a.key else b.key).toInt), .int .i64 ((if c &&& 1 = 1 then a.value else b.value).toInt), .int .i64 ((if c &&& 1 = 1 then a.seq else b.seq).toInt)]]) (.inr rfl) (.p .h .nil) Try.results47 (rvC (vs := [.bool (decide ((if c &&& 1 = 1 then b64 a.dead else b64 b.dead) = 1)), .int .i64 ((if c &&& 1 = 1 then a.key else b.key).toInt), .int .i64 ((if c &&& 1 = 1 then a.value else b.value).toInt), .int .i64 ((if c &&& 1 = 1 then a.seq else b.seq).toInt)]) rfl Try.isAgg23 Try.sizeOf23 (fun w hs => ownN .h rfl w hs)) ?_
 intro w' hs; exact ⟨(by rw [pickR_eq]), SH.dropAll (L := []) [_] hs⟩
def stg (n : Int) : Int := if 1 ≤ n ∧ n ≤ 65536 ∧ n.toNat &&& (n - 1).toNat = 0 then (blen n.toNat : Int) - 1 else -1
theorem stg_bd (n : Int) : -1 ≤ stg n ∧ stg n ≤ 16 := by
  unfold stg
  split
  · rename_i h
    have := blen_le (n := n.toNat) (k := 17) (by omega)
    omega
  · omega
def stgN (n : Int) : Nat := (max (stg n) 0).toNat
theorem stgN_le (n : Int) : stgN n ≤ 16 := by have := stg_bd n; unfold stgN; omega
theorem stgN_max (n : Int) : (if stg n < 0 then 0 else stg n) = ((stgN n : Nat) : Int) := by unfold stgN; split <;> omega
theorem stgN_mul (n : Int) : IntKind.i64.wrap (((stgN n : Nat) : Int) * (((stgN n + 1 : Nat)) : Int)) = ((stgN n * (stgN n + 1) : Nat) : Int) := by
  have h := stgN_le n
  have h2 : stgN n * (stgN n + 1) ≤ 16 * 17 := Nat.mul_le_mul h (by omega)
  exact wI (by simp) (by omega) (by omega)
def rnd (n : Int) : Nat := stgN n * (stgN n + 1) / 2
def clampP (n : Int) : Nat := (max 1 (min n 65536)).toNat
theorem clampP_max (n : Int) : (if (1 : Int) < min n 65536 then min n 65536 else 1) = ((clampP n : Nat) : Int) := by unfold clampP; split <;> omega
theorem clampP_bd (n : Int) : 1 ≤ clampP n ∧ clampP n ≤ 65536 := by unfold clampP; omega
def pad (n : Int) : Nat := 2 ^ blen (clampP n - 1)
theorem len64_c (x : Nat) (hx : x < 4294967296) (w : World) : Pure Try.prog 219 #[.int .u64 ((x : Nat) : Int)] w (.int .i64 (((blen x) : Nat) : Int)) := by
 refine calls_S (n := 25) (σ0 := (upd fr0 0 (.int .u64 ((x : Nat) : Int)))) (D := []) (A := []) Try.func219 rfl Try.ntmps219 rfl (a1_fr _) (SH.start w) ?_
 refine wpS_seq ?_
 refine wpS_region ?_
 refine s_y (v := .int .i64 0) (y_assign rfl) rfl ?_
 refine wpL_nil ?_
 refine thenS_n ?_
 refine wpS_seq ?_
 refine wpS_seq ?_
 refine wpS_region ?_
 refine s_y (v := .int .u64 ((x : Nat) : Int)) (y_move rfl) rfl ?_
 refine s_y (v := .bool (decide ((4294967296 : Nat) ≤ x))) (y_geq (a := ((x : Nat) : Int)) (b := 4294967296) (c := decide ((4294967296 : Nat) ≤ x)) rfl rfl (by simp only [decide_eq_decide]; omega)) rfl ?_
 refine wpL_nil ?_
 refine thenS_n ?_
 refine wpS_cond_F (t := decide ((4294967296 : Nat) ≤ x)) rfl (decide_eq_false (by omega)) ?_
 refine wpS_skip ?_
 refine thenS_n ?_
 refine wpS_seq ?_
 refine wpS_seq ?_
 refine wpS_region ?_
 refine s_y (v := .int .u64 ((x : Nat) : Int)) (y_move rfl) rfl ?_
 refine s_y (v := .bool (decide ((65536 : Nat) ≤ x))) (y_geq (a := ((x : Nat) : Int)) (b := 65536) (c := decide ((65536 : Nat) ≤ x)) rfl rfl (by simp only [decide_eq_decide]; omega)) rfl ?_
 refine wpL_nil ?_
 refine thenS_n ?_
 refine wpS_cond (t := decide ((65536 : Nat) ≤ x)) rfl (fun b1 => ?_) (fun b1 => ?_)
 ·
  have p1 := of_decide_eq_true b1
  refine wpS_seq ?_
  refine wpS_region ?_
  refine s_y (v := .int .u64 ((x : Nat) : Int)) (y_move rfl) rfl ?_
  refine s_y (v := .int .u64 (((x / 65536) : Nat) : Int)) (y_shr (a := ((x : Nat) : Int)) (b := 16) rfl rfl (by decide) (zn_shr ((x : Nat) : Int) 16 65536 (by decide) (by decide) (Int.natCast_nonneg _))) rfl ?_
  refine s_y (v := .int .u64 (((x / 65536) : Nat) : Int)) (y_assign rfl) rfl ?_
  refine wpL_nil ?_
  refine thenS_n ?_
  refine wpS_region ?_
  refine s_y (v := .int .i64 0) (y_move rfl) rfl ?_
  refine s_y (v := .int .i64 16) (y_add (a := 0) (b := 16) rfl rfl (by decide)) rfl ?_
  refine s_y (v := .int .i64 16) (y_assign rfl) rfl ?_
  refine wpL_nil ?_
  refine thenS_n ?_
  refine wpS_seq ?_
  refine wpS_seq ?_
  refine wpS_region ?_
  refine s_y (v := .int .u64 (((x / 65536) : Nat) : Int)) (y_move rfl) rfl ?_
  refine s_y (v := .bool (decide ((256 : Nat) ≤ (x / 65536)))) (y_geq (a := (((x / 65536) : Nat) : Int)) (b := 256) (c := decide ((256 : Nat) ≤ (x / 65536))) rfl rfl (by simp only [decide_eq_decide]; omega)) rfl ?_
  refine wpL_nil ?_
  refine thenS_n ?_
  refine wpS_cond (t := decide ((256 : Nat) ≤ (x / 65536))) rfl (fun b2 => ?_) (fun b2 => ?_)
  ·
   have p2 := of_decide_eq_true b2
   refine wpS_seq ?_
   refine wpS_region ?_
   refine s_y (v := .int .u64 (((x / 65536) : Nat) : Int)) (y_move rfl) rfl ?_
   refine s_y (v := .int .u64 ((((x / 65536) / 256) : Nat) : Int)) (y_shr (a := (((x / 65536) : Nat) : Int)) (b := 8) rfl rfl (by decide) (zn_shr (((x / 65536) : Nat) : Int) 8 256 (by decide) (by decide) (Int.natCast_nonneg _))) rfl ?_
   refine s_y (v := .int .u64 ((((x / 65536) / 256) : Nat) : Int)) (y_assign rfl) rfl ?_
   refine wpL_nil ?_
   refine thenS_n ?_
   refine wpS_region ?_
   refine s_y (v := .int .i64 16) (y_move rfl) rfl ?_
   refine s_y (v := .int .i64 24) (y_add (a := 16) (b := 8) rfl rfl (by decide)) rfl ?_
   refine s_y (v := .int .i64 24) (y_assign rfl) rfl ?_
   refine wpL_nil ?_
   refine thenS_n ?_
   refine wpS_seq ?_
   refine wpS_region ?_
   refine s_y (v := .int .i64 24) (y_move rfl) rfl ?_
   refine s_y (v := .int .u64 ((((x / 65536) / 256) : Nat) : Int)) (y_move rfl) rfl ?_
   refine s_y (v := .int .u8 ((((x / 65536) / 256) : Nat) : Int)) (y_convI (a := ((((x / 65536) / 256) : Nat) : Int)) rfl Try.underlying24 Try.underlying5 (wu8 (by omega))) rfl ?_
   have hb := blen_le (n := ((x / 65536) / 256)) (k := 8) (by omega)
   refine s_y (v := .int .u8 (((blen ((x / 65536) / 256)) : Nat) : Int)) (y_lenTab (i := ((x / 65536) / 256)) rfl rfl Try.underlying9 (by kernel_rfl) (by omega)) rfl ?_
   refine s_y (v := .int .i64 (((blen ((x / 65536) / 256)) : Nat) : Int)) (y_convI (a := (((blen ((x / 65536) / 256)) : Nat) : Int)) rfl Try.underlying5 Try.underlying3 (wI rfl (by omega) (by omega))) rfl ?_
   refine s_y (v := .int .i64 (((24 + (blen ((x / 65536) / 256))) : Nat) : Int)) (y_add (a := 24) (b := (((blen ((x / 65536) / 256)) : Nat) : Int)) rfl rfl (wI (by omega) (by omega) (by omega))) rfl ?_
   refine s_y (v := .int .i64 (((24 + (blen ((x / 65536) / 256))) : Nat) : Int)) (y_assign rfl) rfl ?_
   refine wpL_nil ?_
   refine thenS_n ?_
   refine wpS_ret ?_
   refine fin1 (v := .int .i64 (((24 + (blen ((x / 65536) / 256))) : Nat) : Int)) (.inr rfl) .nil Try.results219 rfl ?_
   exact fun w' hs => ⟨congrArg (fun n : Nat => Ending.returned (.int .i64 (n : Int))) (show (24 + (blen ((x / 65536) / 256))) = blen x from by (first | simp | (have h1 := blen_shift x 8 (by omega); simp only [Nat.reducePow] at h1; omega) | (have h1 := blen_shift x 16 (by omega); simp only [Nat.reducePow] at h1; omega) | (have h1 := blen_shift x 16 (by omega); have h2 := blen_shift (x / 65536) 8 (by omega); simp only [Nat.reducePow] at h1 h2; omega))), hs⟩
  ·
   have p2 := of_decide_eq_false b2
   refine wpS_skip ?_
   refine thenS_n ?_
   refine wpS_seq ?_
   refine wpS_region ?_
   refine s_y (v := .int .i64 16) (y_move rfl) rfl ?_
   refine s_y (v := .int .u64 (((x / 65536) : Nat) : Int)) (y_move rfl) rfl ?_
   refine s_y (v := .int .u8 (((x / 65536) : Nat) : Int)) (y_convI (a := (((x / 65536) : Nat) : Int)) rfl Try.underlying24 Try.underlying5 (wu8 (by omega))) rfl ?_
   have hb := blen_le (n := (x / 65536)) (k := 8) (by omega)
   refine s_y (v := .int .u8 (((blen (x / 65536)) : Nat) : Int)) (y_lenTab (i := (x / 65536)) rfl rfl Try.underlying9 (by kernel_rfl) (by omega)) rfl ?_
   refine s_y (v := .int .i64 (((blen (x / 65536)) : Nat) : Int)) (y_convI (a := (((blen (x / 65536)) : Nat) : Int)) rfl Try.underlying5 Try.underlying3 (wI rfl (by omega) (by omega))) rfl ?_
   refine s_y (v := .int .i64 (((16 + (blen (x / 65536))) : Nat) : Int)) (y_add (a := 16) (b := (((blen (x / 65536)) : Nat) : Int)) rfl rfl (wI (by omega) (by omega) (by omega))) rfl ?_
   refine s_y (v := .int .i64 (((16 + (blen (x / 65536))) : Nat) : Int)) (y_assign rfl) rfl ?_
   refine wpL_nil ?_
   refine thenS_n ?_
   refine wpS_ret ?_
   refine fin1 (v := .int .i64 (((16 + (blen (x / 65536))) : Nat) : Int)) (.inr rfl) .nil Try.results219 rfl ?_
   exact fun w' hs => ⟨congrArg (fun n : Nat => Ending.returned (.int .i64 (n : Int))) (show (16 + (blen (x / 65536))) = blen x from by (first | simp | (have h1 := blen_shift x 8 (by omega); simp only [Nat.reducePow] at h1; omega) | (have h1 := blen_shift x 16 (by omega); simp only [Nat.reducePow] at h1; omega) | (have h1 := blen_shift x 16 (by omega); have h2 := blen_shift (x / 65536) 8 (by omega); simp only [Nat.reducePow] at h1 h2; omega))), hs⟩
 ·
  have p1 := of_decide_eq_false b1
  refine wpS_skip ?_
  refine thenS_n ?_
  refine wpS_seq ?_
  refine wpS_seq ?_
  refine wpS_region ?_
  refine s_y (v := .int .u64 ((x : Nat) : Int)) (y_move rfl) rfl ?_
  refine s_y (v := .bool (decide ((256 : Nat) ≤ x))) (y_geq (a := ((x : Nat) : Int)) (b := 256) (c := decide ((256 : Nat) ≤ x)) rfl rfl (by simp only [decide_eq_decide]; omega)) rfl ?_
  refine wpL_nil ?_
  refine thenS_n ?_
  refine wpS_cond (t := decide ((256 : Nat) ≤ x)) rfl (fun b3 => ?_) (fun b3 => ?_)
  ·
   have p3 := of_decide_eq_true b3
   refine wpS_seq ?_
   refine wpS_region ?_
   refine s_y (v := .int .u64 ((x : Nat) : Int)) (y_move rfl) rfl ?_
   refine s_y (v := .int .u64 (((x / 256) : Nat) : Int)) (y_shr (a := ((x : Nat) : Int)) (b := 8) rfl rfl (by decide) (zn_shr ((x : Nat) : Int) 8 256 (by decide) (by decide) (Int.natCast_nonneg _))) rfl ?_
   refine s_y (v := .int .u64 (((x / 256) : Nat) : Int)) (y_assign rfl) rfl ?_
   refine wpL_nil ?_
   refine thenS_n ?_
   refine wpS_region ?_
   refine s_y (v := .int .i64 0) (y_move rfl) rfl ?_
   refine s_y (v := .int .i64 8) (y_add (a := 0) (b := 8) rfl rfl (by decide)) rfl ?_
   refine s_y (v := .int .i64 8) (y_assign rfl) rfl ?_
   refine wpL_nil ?_
   refine thenS_n ?_
   refine wpS_seq ?_
   refine wpS_region ?_
   refine s_y (v := .int .i64 8) (y_move rfl) rfl ?_
   refine s_y (v := .int .u64 (((x / 256) : Nat) : Int)) (y_move rfl) rfl ?_
   refine s_y (v := .int .u8 (((x / 256) : Nat) : Int)) (y_convI (a := (((x / 256) : Nat) : Int)) rfl Try.underlying24 Try.underlying5 (wu8 (by omega))) rfl ?_
   have hb := blen_le (n := (x / 256)) (k := 8) (by omega)
   refine s_y (v := .int .u8 (((blen (x / 256)) : Nat) : Int)) (y_lenTab (i := (x / 256)) rfl rfl Try.underlying9 (by kernel_rfl) (by omega)) rfl ?_
   refine s_y (v := .int .i64 (((blen (x / 256)) : Nat) : Int)) (y_convI (a := (((blen (x / 256)) : Nat) : Int)) rfl Try.underlying5 Try.underlying3 (wI rfl (by omega) (by omega))) rfl ?_
   refine s_y (v := .int .i64 (((8 + (blen (x / 256))) : Nat) : Int)) (y_add (a := 8) (b := (((blen (x / 256)) : Nat) : Int)) rfl rfl (wI (by omega) (by omega) (by omega))) rfl ?_
   refine s_y (v := .int .i64 (((8 + (blen (x / 256))) : Nat) : Int)) (y_assign rfl) rfl ?_
   refine wpL_nil ?_
   refine thenS_n ?_
   refine wpS_ret ?_
   refine fin1 (v := .int .i64 (((8 + (blen (x / 256))) : Nat) : Int)) (.inr rfl) .nil Try.results219 rfl ?_
   exact fun w' hs => ⟨congrArg (fun n : Nat => Ending.returned (.int .i64 (n : Int))) (show (8 + (blen (x / 256))) = blen x from by (first | simp | (have h1 := blen_shift x 8 (by omega); simp only [Nat.reducePow] at h1; omega) | (have h1 := blen_shift x 16 (by omega); simp only [Nat.reducePow] at h1; omega) | (have h1 := blen_shift x 16 (by omega); have h2 := blen_shift (x / 65536) 8 (by omega); simp only [Nat.reducePow] at h1 h2; omega))), hs⟩
  ·
   have p3 := of_decide_eq_false b3
   refine wpS_skip ?_
   refine thenS_n ?_
   refine wpS_seq ?_
   refine wpS_region ?_
   refine s_y (v := .int .i64 0) (y_move rfl) rfl ?_
   refine s_y (v := .int .u64 ((x : Nat) : Int)) (y_move rfl) rfl ?_
   refine s_y (v := .int .u8 ((x : Nat) : Int)) (y_convI (a := ((x : Nat) : Int)) rfl Try.underlying24 Try.underlying5 (wu8 (by omega))) rfl ?_
   have hb := blen_le (n := x) (k := 8) (by omega)
   refine s_y (v := .int .u8 (((blen x) : Nat) : Int)) (y_lenTab (i := x) rfl rfl Try.underlying9 (by kernel_rfl) (by omega)) rfl ?_
   refine s_y (v := .int .i64 (((blen x) : Nat) : Int)) (y_convI (a := (((blen x) : Nat) : Int)) rfl Try.underlying5 Try.underlying3 (wI rfl (by omega) (by omega))) rfl ?_
   refine s_y (v := .int .i64 (((0 + (blen x)) : Nat) : Int)) (y_add (a := 0) (b := (((blen x) : Nat) : Int)) rfl rfl (wI (by omega) (by omega) (by omega))) rfl ?_
   refine s_y (v := .int .i64 (((0 + (blen x)) : Nat) : Int)) (y_assign rfl) rfl ?_
   refine wpL_nil ?_
   refine thenS_n ?_
   refine wpS_ret ?_
   refine fin1 (v := .int .i64 (((0 + (blen x)) : Nat) : Int)) (.inr rfl) .nil Try.results219 rfl ?_
   exact fun w' hs => ⟨congrArg (fun n : Nat => Ending.returned (.int .i64 (n : Int))) (show (0 + (blen x)) = blen x from by (first | simp | (have h1 := blen_shift x 8 (by omega); simp only [Nat.reducePow] at h1; omega) | (have h1 := blen_shift x 16 (by omega); simp only [Nat.reducePow] at h1; omega) | (have h1 := blen_shift x 16 (by omega); have h2 := blen_shift (x / 65536) 8 (by omega); simp only [Nat.reducePow] at h1 h2; omega))), hs⟩
theorem len_c (x : Nat) (hx : x < 4294967296) (w : World) : Pure Try.prog 150 #[.int .u64 ((x : Nat) : Int)] w (.int .i64 (((blen x) : Nat) : Int)) := by
 refine calls_S (n := 8) (σ0 := (upd fr0 0 (.int .u64 ((x : Nat) : Int)))) (D := []) (A := []) Try.func150 rfl Try.ntmps150 rfl (a1_fr _) (SH.start w) ?_
 refine wpS_seq ?_
 refine wpS_region ?_
 refine s_y (v := .int .i64 0) (y_assign rfl) rfl ?_
 refine wpL_nil ?_
 refine thenS_n ?_
 refine wpS_seq ?_
 refine wpS_cond_f rfl ?_
 refine wpS_skip ?_
 refine thenS_n ?_
 refine wpS_seq ?_
 refine wpS_region ?_
 refine s_y (v := .int .u64 ((x : Nat) : Int)) (y_move rfl) rfl ?_
 refine s_y (v := .int .i64 (((blen x) : Nat) : Int)) (y_call (args := #[.int .u64 ((x : Nat) : Int)]) Try.call219 (ev1 rfl) (fun w hs => len64_c x (by omega) w)) rfl ?_
 refine s_y (v := .int .i64 (((blen x) : Nat) : Int)) (y_assign rfl) rfl ?_
 refine wpL_nil ?_
 refine thenS_n ?_
 refine wpS_ret ?_
 refine fin1 (v := .int .i64 (((blen x) : Nat) : Int)) (.inr rfl) .nil Try.results150 rfl ?_
 exact fun w' hs => ⟨rfl, hs⟩
theorem stages_c (n : Int) (h1 : -9223372036854775808 ≤ n) (h2 : n < 9223372036854775808) (w : World) : Pure Try.prog 151 #[.int .i64 n] w (.int .i64 (stg n)) := by
 refine calls_S (n := 20) (σ0 := (upd fr0 0 (.int .i64 n))) (D := []) (A := []) Try.func151 rfl Try.ntmps151 rfl (a1_fr _) (SH.start w) ?_
 refine wpS_seq ?_
 refine wpS_region ?_
 refine s_y (v := .int .i64 0) (y_assign rfl) rfl ?_
 refine wpL_nil ?_
 refine thenS_n ?_
 refine wpS_seq ?_
 refine wpS_seq ?_
 refine wpS_region ?_
 refine s_y (v := .int .i64 n) (y_move rfl) rfl ?_
 refine s_y (v := .bool (decide ((n : Int) < 1))) (y_lss (a := n) (b := 1) rfl rfl rfl) rfl ?_
 refine s_y (v := .bool (decide ((n : Int) < 1))) (y_move rfl) rfl ?_
 rcases Bool.eq_false_or_eq_true (decide ((n : Int) < 1)) with b1 | b1
 ·
  have p1 := of_decide_eq_true b1
  refine s_no rfl rfl rfl rfl (b' := decide ((n : Int) < 1)) rfl b1 ?_
  refine s_no rfl rfl rfl rfl (b' := decide ((n : Int) < 1)) rfl b1 ?_
  refine s_y (v := .bool true) (y_pickT (b := decide ((n : Int) < 1)) rfl b1 rfl) rfl ?_
  refine s_y (v := .bool true) (y_move rfl) rfl ?_
  refine s_no rfl rfl rfl rfl rfl rfl ?_
  refine s_no rfl rfl rfl rfl rfl rfl ?_
  refine s_no rfl rfl rfl rfl rfl rfl ?_
  refine s_no rfl rfl rfl rfl rfl rfl ?_
  refine s_no rfl rfl rfl rfl rfl rfl ?_
  refine s_y (v := .bool true) (y_pickT rfl rfl rfl) rfl ?_
  refine wpL_nil ?_
  refine thenS_n ?_
  refine wpS_cond_t rfl ?_
  refine wpS_seq ?_
  refine wpS_region ?_
  refine s_y (v := .int .i64 (-1)) (y_assign rfl) rfl ?_
  refine wpL_nil ?_
  refine thenS_n ?_
  refine wpS_ret ?_
  refine thenS_r ?_
  refine fin1 (v := .int .i64 (-1)) (.inr rfl) .nil Try.results151 rfl ?_
  exact fun w' hs => ⟨congrArg (fun z : Int => Ending.returned (.int .i64 z)) (by unfold stg; first | (rw [if_neg (by omega)]; done) | rw [if_pos ⟨by omega, by omega, by omega⟩]), hs⟩
 ·
  have p1 := of_decide_eq_false b1
  refine s_gy (y_move rfl) rfl rfl rfl rfl (b' := decide ((n : Int) < 1)) rfl b1 ?_
  refine s_gy (y_gtr (a := n) (b := 65536) rfl rfl rfl) rfl rfl rfl rfl (b' := decide ((n : Int) < 1)) rfl b1 ?_
  refine s_y (v := .bool (decide ((65536 : Int) < n))) (y_pickF (b := decide ((n : Int) < 1)) rfl b1 rfl) rfl ?_
  refine s_y (v := .bool (decide ((65536 : Int) < n))) (y_move rfl) rfl ?_
  rcases Bool.eq_false_or_eq_true (decide ((65536 : Int) < n)) with b2 | b2
  ·
   have p2 := of_decide_eq_true b2
   refine s_no rfl rfl rfl rfl (b' := decide ((65536 : Int) < n)) rfl b2 ?_
   refine s_no rfl rfl rfl rfl (b' := decide ((65536 : Int) < n)) rfl b2 ?_
   refine s_no rfl rfl rfl rfl (b' := decide ((65536 : Int) < n)) rfl b2 ?_
   refine s_no rfl rfl rfl rfl (b' := decide ((65536 : Int) < n)) rfl b2 ?_
   refine s_no rfl rfl rfl rfl (b' := decide ((65536 : Int) < n)) rfl b2 ?_
   refine s_y (v := .bool true) (y_pickT (b := decide ((65536 : Int) < n)) rfl b2 rfl) rfl ?_
   refine wpL_nil ?_
   refine thenS_n ?_
   refine wpS_cond_t rfl ?_
   refine wpS_seq ?_
   refine wpS_region ?_
   refine s_y (v := .int .i64 (-1)) (y_assign rfl) rfl ?_
   refine wpL_nil ?_
   refine thenS_n ?_
   refine wpS_ret ?_
   refine thenS_r ?_
   refine fin1 (v := .int .i64 (-1)) (.inr rfl) .nil Try.results151 rfl ?_
   exact fun w' hs => ⟨congrArg (fun z : Int => Ending.returned (.int .i64 z)) (by unfold stg; first | (rw [if_neg (by omega)]; done) | rw [if_pos ⟨by omega, by omega, by omega⟩]), hs⟩
  ·
   have p2 := of_decide_eq_false b2
   refine s_gy (y_move rfl) rfl rfl rfl rfl (b' := decide ((65536 : Int) < n)) rfl b2 ?_
   refine s_gy (y_move rfl) rfl rfl rfl rfl (b' := decide ((65536 : Int) < n)) rfl b2 ?_
   refine s_gy (y_sub (a := n) (b := 1) (c := n - 1) rfl rfl (wI rfl (by omega) (by omega))) rfl rfl rfl rfl (b' := decide ((65536 : Int) < n)) rfl b2 ?_
   refine s_gy (y_and (a := n) (b := n - 1) (c := (((n.toNat &&& (n - 1).toNat) : Nat) : Int)) rfl rfl (zi_and n (n - 1) (by omega) (by omega) (by omega) (by omega))) rfl rfl rfl rfl (b' := decide ((65536 : Int) < n)) rfl b2 ?_
   refine s_gy (y_neq (a := (((n.toNat &&& (n - 1).toNat) : Nat) : Int)) (b := 0) (c := decide (((n.toNat &&& (n - 1).toNat) : Nat) ≠ 0)) rfl rfl (by simp only [decide_eq_decide]; omega)) rfl rfl rfl rfl (b' := decide ((65536 : Int) < n)) rfl b2 ?_
   refine s_y (v := .bool (decide (((n.toNat &&& (n - 1).toNat) : Nat) ≠ 0))) (y_pickF (b := decide ((65536 : Int) < n)) rfl b2 rfl) rfl ?_
   refine wpL_nil ?_
   refine thenS_n ?_
   refine wpS_cond (t := decide (((n.toNat &&& (n - 1).toNat) : Nat) ≠ 0)) rfl (fun b3 => ?_) (fun b3 => ?_)
   ·
    have p3 := of_decide_eq_true b3
    refine wpS_seq ?_
    refine wpS_region ?_
    refine s_y (v := .int .i64 (-1)) (y_assign rfl) rfl ?_
    refine wpL_nil ?_
    refine thenS_n ?_
    refine wpS_ret ?_
    refine thenS_r ?_
    refine fin1 (v := .int .i64 (-1)) (.inr rfl) .nil Try.results151 rfl ?_
    exact fun w' hs => ⟨congrArg (fun z : Int => Ending.returned (.int .i64 z)) (by unfold stg; first | (rw [if_neg (by omega)]; done) | rw [if_pos ⟨by omega, by omega, by omega⟩]), hs⟩
   ·
    have p3 := of_decide_eq_false b3
    refine wpS_skip ?_
    refine thenS_n ?_
    refine wpS_seq ?_
    refine wpS_region ?_
    refine s_y (v := .int .i64 n) (y_move rfl) rfl ?_
    refine s_y (v := .int .u64 ((n.toNat : Nat) : Int)) (y_convI (a := n) rfl Try.underlying3 Try.underlying46 (wU (by omega) (by omega) (by omega))) rfl ?_
    refine s_y (v := .int .i64 (((blen (n.toNat)) : Nat) : Int)) (y_call (args := #[.int .u64 ((n.toNat : Nat) : Int)]) Try.call150 (ev1 rfl) (fun w hs => len_c (n.toNat) (by omega) w)) rfl ?_
    have hb := blen_le (n := n.toNat) (k := 17) (by omega)
    refine s_y (v := .int .i64 ((((blen (n.toNat)) : Nat) : Int) - 1)) (y_sub (a := (((blen (n.toNat)) : Nat) : Int)) (b := 1) rfl rfl (wI rfl (by omega) (by omega))) rfl ?_
    refine s_y (v := .int .i64 ((((blen (n.toNat)) : Nat) : Int) - 1)) (y_assign rfl) rfl ?_
    refine wpL_nil ?_
    refine thenS_n ?_
    refine wpS_ret ?_
    refine fin1 (v := .int .i64 ((((blen (n.toNat)) : Nat) : Int) - 1)) (.inr rfl) .nil Try.results151 rfl ?_
    exact fun w' hs => ⟨congrArg (fun z : Int => Ending.returned (.int .i64 z)) (by unfold stg; first | (rw [if_neg (by omega)]; done) | rw [if_pos ⟨by omega, by omega, by omega⟩]), hs⟩
theorem rounds_c (n : Int) (h1 : -9223372036854775808 ≤ n) (h2 : n < 9223372036854775808) (w : World) : Pure Try.prog 52 #[.int .i64 n] w (.int .i64 (((rnd n) : Nat) : Int)) := by
 refine calls_S (n := 12) (σ0 := (upd fr0 0 (.int .i64 n))) (D := []) (A := []) Try.func52 rfl Try.ntmps52 rfl (a1_fr _) (SH.start w) ?_
 have hb := stg_bd n
 have hk := stgN_le n
 have hm : stgN n * (stgN n + 1) ≤ 16 * 17 := Nat.mul_le_mul hk (by omega)
 refine wpS_seq ?_
 refine wpS_region ?_
 refine s_y (v := .int .i64 0) (y_assign rfl) rfl ?_
 refine wpL_nil ?_
 refine thenS_n ?_
 refine wpS_seq ?_
 refine wpS_region ?_
 refine s_y (v := .int .i64 n) (y_move rfl) rfl ?_
 refine s_y (v := .int .i64 (stg n)) (y_call (args := #[.int .i64 n]) Try.call151 (ev1 rfl) (fun w hs => stages_c n (by omega) (by omega) w)) rfl ?_
 refine s_y (v := .int .i64 (((stgN n) : Nat) : Int)) (y_max (a := stg n) (b := 0) rfl rfl (stgN_max n)) rfl ?_
 refine s_y (v := .int .i64 (((stgN n) : Nat) : Int)) (y_assign rfl) rfl ?_
 refine wpL_nil ?_
 refine thenS_n ?_
 refine wpS_seq ?_
 refine wpS_region ?_
 refine s_y (v := .int .i64 (((stgN n) : Nat) : Int)) (y_move rfl) rfl ?_
 refine s_y (v := .int .i64 (((stgN n) : Nat) : Int)) (y_move rfl) rfl ?_
 refine s_y (v := .int .i64 ((((stgN n) + 1) : Nat) : Int)) (y_add (a := (((stgN n) : Nat) : Int)) (b := 1) rfl rfl (wI (by omega) (by omega) (by omega))) rfl ?_
 refine s_y (v := .int .i64 (((stgN n * (stgN n + 1)) : Nat) : Int)) (y_mul (a := (((stgN n) : Nat) : Int)) (b := ((((stgN n) + 1) : Nat) : Int)) rfl rfl (stgN_mul n)) rfl ?_
 refine s_y (v := .int .i64 ((((stgN n * (stgN n + 1)) / 2) : Nat) : Int)) (y_quo (a := (((stgN n * (stgN n + 1)) : Nat) : Int)) (b := 2) rfl rfl (by omega) (n_quo _ 2 (by omega) (by omega))) rfl ?_
 refine s_y (v := .int .i64 ((((stgN n * (stgN n + 1)) / 2) : Nat) : Int)) (y_assign rfl) rfl ?_
 refine wpL_nil ?_
 refine thenS_n ?_
 refine wpS_ret ?_
 refine fin1 (v := .int .i64 ((((stgN n * (stgN n + 1)) / 2) : Nat) : Int)) (.inr rfl) .nil Try.results52 rfl ?_
 exact fun w' hs => ⟨rfl, hs⟩
theorem padded_c (n : Int) (h1 : -9223372036854775808 ≤ n) (h2 : n < 9223372036854775808) (w : World) : Pure Try.prog 50 #[.int .i64 n] w (.int .i64 (((pad n) : Nat) : Int)) := by
 refine calls_S (n := 11) (σ0 := (upd fr0 0 (.int .i64 n))) (D := []) (A := []) Try.func50 rfl Try.ntmps50 rfl (a1_fr _) (SH.start w) ?_
 have hc := clampP_bd n
 have hl := blen_le (n := clampP n - 1) (k := 16) (by omega)
 refine wpS_seq ?_
 refine wpS_region ?_
 refine s_y (v := .int .i64 0) (y_assign rfl) rfl ?_
 refine wpL_nil ?_
 refine thenS_n ?_
 refine wpS_seq ?_
 refine wpS_region ?_
 refine s_y (v := .int .i64 n) (y_move rfl) rfl ?_
 refine s_y (v := .int .i64 (min n 65536)) (y_min (a := n) (b := 65536) rfl rfl (by split <;> omega)) rfl ?_
 refine s_y (v := .int .i64 (((clampP n) : Nat) : Int)) (y_max (a := 1) (b := min n 65536) rfl rfl (clampP_max n)) rfl ?_
 refine s_y (v := .int .i64 (((clampP n) : Nat) : Int)) (y_assign rfl) rfl ?_
 refine wpL_nil ?_
 refine thenS_n ?_
 refine wpS_seq ?_
 refine wpS_region ?_
 refine s_y (v := .int .i64 (((clampP n) : Nat) : Int)) (y_move rfl) rfl ?_
 refine s_y (v := .int .i64 (((clampP n - 1) : Nat) : Int)) (y_sub (a := (((clampP n) : Nat) : Int)) (b := 1) rfl rfl (wI (by omega) (by omega) (by omega))) rfl ?_
 refine s_y (v := .int .u64 (((clampP n - 1) : Nat) : Int)) (y_convI (a := (((clampP n - 1) : Nat) : Int)) rfl Try.underlying3 Try.underlying46 (wU rfl (by omega) (by omega))) rfl ?_
 refine s_y (v := .int .i64 (((blen (clampP n - 1)) : Nat) : Int)) (y_call (args := #[.int .u64 (((clampP n - 1) : Nat) : Int)]) Try.call150 (ev1 rfl) (fun w hs => len_c (clampP n - 1) (by omega) w)) rfl ?_
 refine s_y (v := .int .i64 (((2 ^ (blen (clampP n - 1))) : Nat) : Int)) (y_shl (a := 1) (b := (((blen (clampP n - 1)) : Nat) : Int)) rfl rfl (by omega) (z1_shl (((blen (clampP n - 1)) : Nat) : Int) (by omega) (by omega))) rfl ?_
 refine s_y (v := .int .i64 (((2 ^ (blen (clampP n - 1))) : Nat) : Int)) (y_assign rfl) rfl ?_
 refine wpL_nil ?_
 refine thenS_n ?_
 refine wpS_ret ?_
 refine fin1 (v := .int .i64 (((2 ^ (blen (clampP n - 1))) : Nat) : Int)) (.inr rfl) .nil Try.results50 rfl ?_
 exact fun w' hs => ⟨rfl, hs⟩
def stpA (K s a : Nat) : Nat × Nat := if s ≤ K then if a < s then (s, s - a) else stpA K (s + 1) (a - s) else (0, 0)
termination_by K + 1 - s
theorem stpA_hit {K s a : Nat} (h : s ≤ K) (h2 : a < s) : stpA K s a = (s, s - a) := by rw [stpA, if_pos h, if_pos h2]
theorem stpA_out {K s a : Nat} (h : ¬ s ≤ K) : stpA K s a = (0, 0) := by rw [stpA, if_neg h]
theorem stpA_next {K s a : Nat} (h : s ≤ K) (h2 : ¬ a < s) : stpA K s a = stpA K (s + 1) (a - s) := by rw [stpA, if_pos h, if_neg h2]
def stp (n r : Int) : Nat × Nat := if r < 0 then (0, 0) else stpA (stgN n) 1 r.toNat
theorem stp_at {n r : Int} (h : ¬ r < 0) : stp n r = stpA (stgN n) 1 r.toNat := by unfold stp; rw [if_neg h]
theorem stpA_bd (K : Nat) : ∀ s a, 1 ≤ s → (stpA K s a).1 ≤ K ∧ (stpA K s a).2 ≤ (stpA K s a).1 ∧ (0 < (stpA K s a).1 → 1 ≤ (stpA K s a).2) := by
  intro s a hs
  induction s, a using stpA.induct (K := K) with
  | case1 s a h h2 => rw [stpA_hit h h2]; simp; omega
  | case2 s a h h2 ih => rw [stpA_next h h2]; exact ih (by omega)
  | case3 s a h => rw [stpA_out h]; simp
theorem stp_bd (n r : Int) : (stp n r).1 ≤ 16 ∧ (stp n r).2 ≤ (stp n r).1 ∧ (0 < (stp n r).1 → 1 ≤ (stp n r).2) := by
  by_cases h : r < 0
  · unfold stp; rw [if_pos h]; simp
  · rw [stp_at h]
    have h1 := stpA_bd (stgN n) 1 r.toNat (by omega)
    have h2 := stgN_le n
    omega
theorem stgN_eq (n : Int) : ((stgN n : Nat) : Int) = max (stg n) 0 := by unfold stgN; omega
def up (n r a : Int) : Bool := decide (0 < (stp n r).1) && (decide (0 ≤ a) && (decide (a < n) && (decide (a.toNat / 2 ^ ((stp n r).2 - 1) % 2 = 0) && decide (a.toNat / 2 ^ (stp n r).1 % 2 = 0))))
def far (n r : Int) : Nat := if 0 < (stp n r).1 then 2 ^ ((stp n r).2 - 1) else 0
theorem step_c (n r : Int) (n1 : -9223372036854775808 ≤ n) (n2 : n < 9223372036854775808) (r1 : -9223372036854775808 ≤ r) (r2 : r < 9223372036854775808) (w : World) : Pure Try.prog 158 #[.int .i64 n, .int .i64 r] w (.tuple #[.int .i64 (((stp n r).1 : Nat) : Int), .int .i64 (((stp n r).2 : Nat) : Int), .bool (decide (0 < (stp n r).1))]) := by
 refine calls_S (n := 34) (σ0 := (upd (upd fr0 0 (.int .i64 n)) 1 (.int .i64 r))) (D := []) (A := []) Try.func158 rfl Try.ntmps158 rfl (a2_fr _ _) (SH.start w) ?_
 have hN := stgN_eq n
 have hK := stgN_le n
 have hb := stg_bd n
 refine wpS_seq ?_
 refine wpS_region ?_
 refine s_y (v := .int .i64 0) (y_assign rfl) rfl ?_
 refine s_y (v := .int .i64 0) (y_assign rfl) rfl ?_
 refine s_y (v := .bool false) (y_assign rfl) rfl ?_
 refine wpL_nil ?_
 refine thenS_n ?_
 refine wpS_scope ?_
 refine wpS_seq ?_
 refine wpS_seq ?_
 refine wpS_region ?_
 refine s_y (v := .int .i64 r) (y_move rfl) rfl ?_
 refine s_y (v := .bool (decide ((r : Int) < 0))) (y_lss (a := r) (b := 0) rfl rfl rfl) rfl ?_
 refine wpL_nil ?_
 refine thenS_n ?_
 refine wpS_cond (t := decide ((r : Int) < 0)) rfl (fun b1 => ?_) (fun b1 => ?_)
 ·
  have p1 := of_decide_eq_true b1
  refine wpS_seq ?_
  refine wpS_region ?_
  refine s_y (v := .int .i64 0) (y_assign rfl) rfl ?_
  refine s_y (v := .int .i64 0) (y_assign rfl) rfl ?_
  refine s_y (v := .bool false) (y_assign rfl) rfl ?_
  refine wpL_nil ?_
  refine thenS_n ?_
  refine wpS_ret ?_
  refine thenS_r ?_
  refine scopeS_r ?_
  refine fin3 (M := []) (.inr rfl) (.nil) Try.results158 (rvT (v := .int .i64 0) rfl) (rvT (v := .int .i64 0) rfl) (rvT (v := .bool false) rfl) ?_
  refine fun w' hs => ⟨?_, hs⟩
  have e : stp n r = (0, 0) := by unfold stp; rw [if_pos (by omega)]
  rw [e]; first | rfl | (simp only [Ending.returned.injEq, Value.tuple.injEq]; congr 2; simp; omega)
 ·
  have p1 := of_decide_eq_false b1
  refine wpS_skip ?_
  refine thenS_n ?_
  refine wpS_seq ?_
  refine wpS_region ?_
  refine s_y (v := .int .i64 r) (y_move rfl) rfl ?_
  refine s_y (v := .int .i64 r) (y_assign rfl) rfl ?_
  refine wpL_nil ?_
  refine thenS_n ?_
  refine wpS_seq ?_
  refine wpS_region ?_
  refine s_y (v := .int .i64 0) (y_assign rfl) rfl ?_
  refine s_y (v := .int .i64 0) (y_assign rfl) rfl ?_
  refine wpL_nil ?_
  refine thenS_n ?_
  refine wpS_seq ?_
  refine wpS_label ?_
  refine thenS_n ?_
  refine wpS_seq ?_
  refine wpS_seq ?_
  refine wpS_region ?_
  refine s_y (v := .int .i64 1) (y_assign rfl) rfl ?_
  refine wpL_nil ?_
  refine thenS_n ?_
  refine wpS_block ?_
  refine wpS_loop (fun m ds σ L => ∃ s : Nat, ∃ a : Nat, m = stgN n + 1 - s ∧ 1 ≤ s ∧ s ≤ stgN n + 1 ∧ a ≤ r.toNat ∧ stpA (stgN n) s a = stpA (stgN n) 1 r.toNat ∧ ds = [] ∧ σ 0 = .int .i64 n ∧ σ 7 = .int .i64 ((a : Nat) : Int) ∧ σ 8 = .int .i64 0 ∧ σ 9 = .int .i64 0 ∧ σ 10 = .int .i64 ((s : Nat) : Int) ∧ Ent L []) (m0 := stgN n + 1 - 1) ⟨1, r.toNat, rfl, by omega, by omega, by omega, rfl, rfl, rfl, (congrArg (Value.int .i64) (by omega)), rfl, rfl, rfl, .nil⟩ ?_
  rintro m ds σ L ⟨s, a, hm_2, hf0_2, hf1_2, hf2_2, hf3_2, rfl, h0_2, h7_2, h8_2, h9_2, h10_2, hE_2⟩
  refine wpS_ent hE_2 ?_; clear hE_2
  refine wpS_seq ?_
  refine wpS_seq ?_
  refine wpS_region ?_
  refine s_y (v := .int .i64 ((s : Nat) : Int)) (y_move h10_2) rfl ?_
  refine s_y (v := .int .i64 n) (y_move h0_2) rfl ?_
  refine s_y (v := .int .i64 (stg n)) (y_call (args := #[.int .i64 n]) Try.call151 (ev1 rfl) (fun w hs => stages_c n (by omega) (by omega) w)) rfl ?_
  refine s_y (v := .bool (decide ((((s : Nat) : Int) : Int) ≤ (stg n)))) (y_leq (a := ((s : Nat) : Int)) (b := stg n) rfl rfl rfl) rfl ?_
  refine wpL_nil ?_
  refine thenS_n ?_
  refine wpS_cond (t := decide ((((s : Nat) : Int) : Int) ≤ (stg n))) rfl (fun b3 => ?_) (fun b3 => ?_)
  ·
   have p3 := of_decide_eq_true b3
   refine wpS_skip ?_
   refine thenS_n ?_
   refine wpS_seq ?_
   refine wpS_block ?_
   refine wpS_seq ?_
   refine wpS_seq ?_
   refine wpS_region ?_
   refine s_y (v := .int .i64 ((a : Nat) : Int)) (y_move h7_2) rfl ?_
   refine s_y (v := .int .i64 ((s : Nat) : Int)) (y_move h10_2) rfl ?_
   refine s_y (v := .bool (decide (a < s))) (y_lss (a := ((a : Nat) : Int)) (b := ((s : Nat) : Int)) (c := decide (a < s)) rfl rfl (by simp only [decide_eq_decide]; omega)) rfl ?_
   refine wpL_nil ?_
   refine thenS_n ?_
   refine wpS_cond (t := decide (a < s)) rfl (fun b4 => ?_) (fun b4 => ?_)
   ·
    have p4 := of_decide_eq_true b4
    refine wpS_seq ?_
    refine wpS_region ?_
    refine s_y (v := .int .i64 ((s : Nat) : Int)) (y_move h10_2) rfl ?_
    refine s_y (v := .int .i64 ((s : Nat) : Int)) (y_move h10_2) rfl ?_
    refine s_y (v := .int .i64 ((a : Nat) : Int)) (y_move h7_2) rfl ?_
    refine s_y (v := .int .i64 (((s : Nat) : Int) - ((a : Nat) : Int))) (y_sub (a := ((s : Nat) : Int)) (b := ((a : Nat) : Int)) rfl rfl (wI rfl (by omega) (by omega))) rfl ?_
    refine s_y (v := .int .i64 ((s : Nat) : Int)) (y_assign rfl) rfl ?_
    refine s_y (v := .int .i64 (((s : Nat) : Int) - ((a : Nat) : Int))) (y_assign rfl) rfl ?_
    refine wpL_nil ?_
    refine thenS_n ?_
    refine wpS_exit ?_
    refine thenS_x ?_
    refine blockS_m rfl ?_
    refine thenS_x ?_
    refine thenS_x ?_
    refine blockS_h ?_
    refine thenS_n ?_
    refine wpS_seq ?_
    refine wpS_region ?_
    refine s_y (v := .int .i64 ((s : Nat) : Int)) (y_move rfl) rfl ?_
    refine s_y (v := .int .i64 (((s : Nat) : Int) - ((a : Nat) : Int))) (y_move rfl) rfl ?_
    refine s_y (v := .int .i64 ((s : Nat) : Int)) (y_move rfl) rfl ?_
    refine s_y (v := .bool (decide ((0 : Nat) < s))) (y_gtr (a := ((s : Nat) : Int)) (b := 0) (c := decide ((0 : Nat) < s)) rfl rfl (by simp only [decide_eq_decide]; omega)) rfl ?_
    refine s_y (v := .int .i64 ((s : Nat) : Int)) (y_assign rfl) rfl ?_
    refine s_y (v := .int .i64 (((s : Nat) : Int) - ((a : Nat) : Int))) (y_assign rfl) rfl ?_
    refine s_y (v := .bool (decide ((0 : Nat) < s))) (y_assign rfl) rfl ?_
    refine wpL_nil ?_
    refine thenS_n ?_
    refine wpS_ret ?_
    refine scopeS_r ?_
    refine fin3 (M := []) (.inr rfl) (.nil) Try.results158 (rvT (v := .int .i64 ((s : Nat) : Int)) rfl) (rvT (v := .int .i64 (((s : Nat) : Int) - ((a : Nat) : Int))) rfl) (rvT (v := .bool (decide ((0 : Nat) < s))) rfl) ?_
    refine fun w' hs => ⟨?_, hs⟩
    have e : stp n r = (s, s - a) := by rw [stp_at (by omega), ← (by assumption : stpA (stgN n) s a = stpA (stgN n) 1 r.toNat), stpA_hit (by omega) (by omega)]
    rw [e]; first | rfl | (simp only [Ending.returned.injEq, Value.tuple.injEq]; congr 2; simp; omega)
   ·
    have p4 := of_decide_eq_false b4
    refine wpS_skip ?_
    refine thenS_n ?_
    refine wpS_region ?_
    refine s_y (v := .int .i64 ((a : Nat) : Int)) (y_move h7_2) rfl ?_
    refine s_y (v := .int .i64 ((s : Nat) : Int)) (y_move h10_2) rfl ?_
    refine s_y (v := .int .i64 (((a : Nat) : Int) - ((s : Nat) : Int))) (y_sub (a := ((a : Nat) : Int)) (b := ((s : Nat) : Int)) rfl rfl (wI rfl (by omega) (by omega))) rfl ?_
    refine s_y (v := .int .i64 (((a : Nat) : Int) - ((s : Nat) : Int))) (y_assign rfl) rfl ?_
    refine wpL_nil ?_
    refine blockS_n ?_
    refine thenS_n ?_
    refine wpS_region ?_
    refine s_y (v := .int .i64 ((s : Nat) : Int)) (y_move h10_2) rfl ?_
    refine s_y (v := .int .i64 (((s + 1) : Nat) : Int)) (y_add (a := ((s : Nat) : Int)) (b := 1) rfl rfl (wI (by omega) (by omega) (by omega))) rfl ?_
    refine s_y (v := .int .i64 (((s + 1) : Nat) : Int)) (y_assign rfl) rfl ?_
    refine wpL_nil ?_
    refine thenS_n ?_
    exact ⟨_, by omega, ⟨(s + 1), (a - s), rfl, by omega, by omega, by omega, (by rw [← stpA_next (by omega) (by omega)]; assumption), rfl, h0_2, (congrArg (Value.int .i64) (by omega)), h8_2, h9_2, rfl, .nil⟩⟩
  ·
   have p3 := of_decide_eq_false b3
   refine wpS_exit ?_
   refine thenS_x ?_
   refine thenS_x ?_
   refine blockS_h ?_
   refine thenS_n ?_
   refine wpS_seq ?_
   refine wpS_region ?_
   refine s_y (v := .int .i64 0) (y_move h8_2) rfl ?_
   refine s_y (v := .int .i64 0) (y_move h9_2) rfl ?_
   refine s_y (v := .int .i64 0) (y_move h8_2) rfl ?_
   refine s_y (v := .bool false) (y_gtr (a := 0) (b := 0) rfl rfl (by decide)) rfl ?_
   refine s_y (v := .int .i64 0) (y_assign rfl) rfl ?_
   refine s_y (v := .int .i64 0) (y_assign rfl) rfl ?_
   refine s_y (v := .bool false) (y_assign rfl) rfl ?_
   refine wpL_nil ?_
   refine thenS_n ?_
   refine wpS_ret ?_
   refine scopeS_r ?_
   refine fin3 (M := []) (.inr rfl) (.nil) Try.results158 (rvT (v := .int .i64 0) rfl) (rvT (v := .int .i64 0) rfl) (rvT (v := .bool false) rfl) ?_
   refine fun w' hs => ⟨?_, hs⟩
   have e : stp n r = (0, 0) := by rw [stp_at (by omega), ← (by assumption : stpA (stgN n) s a = stpA (stgN n) 1 r.toNat), stpA_out (by omega)]
   rw [e]; first | rfl | (simp only [Ending.returned.injEq, Value.tuple.injEq]; congr 2; simp; omega)
theorem up_c (n r a : Int) (n1 : -9223372036854775808 ≤ n) (n2 : n < 9223372036854775808) (r1 : -9223372036854775808 ≤ r) (r2 : r < 9223372036854775808) (a1 : -9223372036854775808 ≤ a) (a2 : a < 9223372036854775808) (w : World) : Pure Try.prog 59 #[.int .i64 n, .int .i64 r, .int .i64 a] w (.bool (up n r a)) := by
 refine calls_S (n := 42) (σ0 := (upd (upd (upd fr0 0 (.int .i64 n)) 1 (.int .i64 r)) 2 (.int .i64 a))) (D := []) (A := []) Try.func59 rfl Try.ntmps59 rfl (a3_fr _ _ _) (SH.start w) ?_
 have hb := stp_bd n r
 refine wpS_seq ?_
 refine wpS_region ?_
 refine s_y (v := .bool false) (y_assign rfl) rfl ?_
 refine wpL_nil ?_
 refine thenS_n ?_
 refine wpS_seq ?_
 refine wpS_region ?_
 refine s_y (v := .int .i64 n) (y_move rfl) rfl ?_
 refine s_y (v := .int .i64 r) (y_move rfl) rfl ?_
 refine s_y (v := .tuple #[.int .i64 (((stp n r).1 : Nat) : Int), .int .i64 (((stp n r).2 : Nat) : Int), .bool (decide (0 < (stp n r).1))]) (y_call (args := #[.int .i64 n, .int .i64 r]) Try.call158 (ev2 rfl rfl) (fun w hs => step_c n r (by omega) (by omega) (by omega) (by omega) w)) rfl ?_
 refine s_y (v := .tuple #[.int .i64 (((stp n r).1 : Nat) : Int), .int .i64 (((stp n r).2 : Nat) : Int), .bool (decide (0 < (stp n r).1))]) (y_move rfl) rfl ?_
 refine s_y (v := .int .i64 (((stp n r).1 : Nat) : Int)) (y_extract rfl rfl) rfl ?_
 refine s_y (v := .int .i64 (((stp n r).2 : Nat) : Int)) (y_extract rfl rfl) rfl ?_
 refine s_y (v := .bool (decide (0 < (stp n r).1))) (y_extract rfl rfl) rfl ?_
 refine s_y (v := .int .i64 (((stp n r).1 : Nat) : Int)) (y_assign rfl) rfl ?_
 refine s_y (v := .int .i64 (((stp n r).2 : Nat) : Int)) (y_assign rfl) rfl ?_
 refine s_y (v := .bool (decide (0 < (stp n r).1))) (y_assign rfl) rfl ?_
 refine wpL_nil ?_
 refine thenS_n ?_
 refine wpS_seq ?_
 refine wpS_region ?_
 refine s_y (v := .bool (decide (0 < (stp n r).1))) (y_move rfl) rfl ?_
 refine s_y (v := .bool (decide (0 < (stp n r).1))) (y_move rfl) rfl ?_
 rcases Bool.eq_false_or_eq_true (decide (0 < (stp n r).1)) with b1 | b1
 ·
  have p1 := of_decide_eq_true b1
  refine s_gy (y_move rfl) rfl rfl rfl rfl (b' := decide (0 < (stp n r).1)) rfl b1 ?_
  refine s_gy (y_geq (a := a) (b := 0) rfl rfl rfl) rfl rfl rfl rfl (b' := decide (0 < (stp n r).1)) rfl b1 ?_
  refine s_y (v := .bool (decide ((0 : Int) ≤ a))) (y_pickT (b := decide (0 < (stp n r).1)) rfl b1 rfl) rfl ?_
  refine s_y (v := .bool (decide ((0 : Int) ≤ a))) (y_move rfl) rfl ?_
  rcases Bool.eq_false_or_eq_true (decide ((0 : Int) ≤ a)) with b2 | b2
  ·
   have p2 := of_decide_eq_true b2
   refine s_gy (y_move rfl) rfl rfl rfl rfl (b' := decide ((0 : Int) ≤ a)) rfl b2 ?_
   refine s_gy (y_move rfl) rfl rfl rfl rfl (b' := decide ((0 : Int) ≤ a)) rfl b2 ?_
   refine s_gy (y_lss (a := a) (b := n) rfl rfl rfl) rfl rfl rfl rfl (b' := decide ((0 : Int) ≤ a)) rfl b2 ?_
   refine s_y (v := .bool (decide ((a : Int) < n))) (y_pickT (b := decide ((0 : Int) ≤ a)) rfl b2 rfl) rfl ?_
   refine s_y (v := .bool (decide ((a : Int) < n))) (y_move rfl) rfl ?_
   rcases Bool.eq_false_or_eq_true (decide ((a : Int) < n)) with b3 | b3
   ·
    have p3 := of_decide_eq_true b3
    refine s_gy (y_move rfl) rfl rfl rfl rfl (b' := decide ((a : Int) < n)) rfl b3 ?_
    refine s_gy (y_move rfl) rfl rfl rfl rfl (b' := decide ((a : Int) < n)) rfl b3 ?_
    refine s_gy (y_sub (a := (((stp n r).2 : Nat) : Int)) (b := 1) (c := ((((stp n r).2 - 1) : Nat) : Int)) rfl rfl (wI (by omega) (by omega) (by omega))) rfl rfl rfl rfl (b' := decide ((a : Int) < n)) rfl b3 ?_
    refine s_gy (y_shr (a := a) (b := ((((stp n r).2 - 1) : Nat) : Int)) (c := (((a.toNat / 2 ^ ((stp n r).2 - 1)) : Nat) : Int)) rfl rfl (by omega) (zs_shr (by decide) (by omega) (by omega) (by omega))) rfl rfl rfl rfl (b' := decide ((a : Int) < n)) rfl b3 ?_
    refine s_gy (y_and (a := (((a.toNat / 2 ^ ((stp n r).2 - 1)) : Nat) : Int)) (b := 1) (c := ((((a.toNat / 2 ^ ((stp n r).2 - 1)) % 2) : Nat) : Int)) rfl rfl (zi_and1 (((a.toNat / 2 ^ ((stp n r).2 - 1)) : Nat) : Int) (Int.natCast_nonneg _))) rfl rfl rfl rfl (b' := decide ((a : Int) < n)) rfl b3 ?_
    refine s_gy (y_eql (a := ((((a.toNat / 2 ^ ((stp n r).2 - 1)) % 2) : Nat) : Int)) (b := 0) (c := decide ((((a.toNat / 2 ^ ((stp n r).2 - 1)) % 2) : Nat) = 0)) rfl rfl (by simp only [decide_eq_decide]; omega)) rfl rfl rfl rfl (b' := decide ((a : Int) < n)) rfl b3 ?_
    refine s_y (v := .bool (decide ((((a.toNat / 2 ^ ((stp n r).2 - 1)) % 2) : Nat) = 0))) (y_pickT (b := decide ((a : Int) < n)) rfl b3 rfl) rfl ?_
    refine s_y (v := .bool (decide ((((a.toNat / 2 ^ ((stp n r).2 - 1)) % 2) : Nat) = 0))) (y_move rfl) rfl ?_
    rcases Bool.eq_false_or_eq_true (decide ((((a.toNat / 2 ^ ((stp n r).2 - 1)) % 2) : Nat) = 0)) with b4 | b4
    ·
     have p4 := of_decide_eq_true b4
     refine s_gy (y_move rfl) rfl rfl rfl rfl (b' := decide ((((a.toNat / 2 ^ ((stp n r).2 - 1)) % 2) : Nat) = 0)) rfl b4 ?_
     refine s_gy (y_move rfl) rfl rfl rfl rfl (b' := decide ((((a.toNat / 2 ^ ((stp n r).2 - 1)) % 2) : Nat) = 0)) rfl b4 ?_
     refine s_gy (y_shr (a := a) (b := (((stp n r).1 : Nat) : Int)) (c := (((a.toNat / 2 ^ (stp n r).1) : Nat) : Int)) rfl rfl (by omega) (zs_shr (by decide) (by omega) (by omega) (by omega))) rfl rfl rfl rfl (b' := decide ((((a.toNat / 2 ^ ((stp n r).2 - 1)) % 2) : Nat) = 0)) rfl b4 ?_
     refine s_gy (y_and (a := (((a.toNat / 2 ^ (stp n r).1) : Nat) : Int)) (b := 1) (c := ((((a.toNat / 2 ^ (stp n r).1) % 2) : Nat) : Int)) rfl rfl (zi_and1 (((a.toNat / 2 ^ (stp n r).1) : Nat) : Int) (Int.natCast_nonneg _))) rfl rfl rfl rfl (b' := decide ((((a.toNat / 2 ^ ((stp n r).2 - 1)) % 2) : Nat) = 0)) rfl b4 ?_
     refine s_gy (y_eql (a := ((((a.toNat / 2 ^ (stp n r).1) % 2) : Nat) : Int)) (b := 0) (c := decide ((((a.toNat / 2 ^ (stp n r).1) % 2) : Nat) = 0)) rfl rfl (by simp only [decide_eq_decide]; omega)) rfl rfl rfl rfl (b' := decide ((((a.toNat / 2 ^ ((stp n r).2 - 1)) % 2) : Nat) = 0)) rfl b4 ?_
     refine s_y (v := .bool (decide ((((a.toNat / 2 ^ (stp n r).1) % 2) : Nat) = 0))) (y_pickT (b := decide ((((a.toNat / 2 ^ ((stp n r).2 - 1)) % 2) : Nat) = 0)) rfl b4 rfl) rfl ?_
     refine s_y (v := .bool (decide ((((a.toNat / 2 ^ (stp n r).1) % 2) : Nat) = 0))) (y_assign rfl) rfl ?_
     refine wpL_nil ?_
     refine thenS_n ?_
     refine wpS_ret ?_
     refine fin1 (v := .bool (decide ((((a.toNat / 2 ^ (stp n r).1) % 2) : Nat) = 0))) (.inr rfl) .nil Try.results59 rfl ?_
     exact fun w' hs => ⟨(by unfold up; simp [*]), hs⟩
    ·
     have p4 := of_decide_eq_false b4
     refine s_no rfl rfl rfl rfl (b' := decide ((((a.toNat / 2 ^ ((stp n r).2 - 1)) % 2) : Nat) = 0)) rfl b4 ?_
     refine s_no rfl rfl rfl rfl (b' := decide ((((a.toNat / 2 ^ ((stp n r).2 - 1)) % 2) : Nat) = 0)) rfl b4 ?_
     refine s_no rfl rfl rfl rfl (b' := decide ((((a.toNat / 2 ^ ((stp n r).2 - 1)) % 2) : Nat) = 0)) rfl b4 ?_
     refine s_no rfl rfl rfl rfl (b' := decide ((((a.toNat / 2 ^ ((stp n r).2 - 1)) % 2) : Nat) = 0)) rfl b4 ?_
     refine s_no rfl rfl rfl rfl (b' := decide ((((a.toNat / 2 ^ ((stp n r).2 - 1)) % 2) : Nat) = 0)) rfl b4 ?_
     refine s_y (v := .bool false) (y_pickF (b := decide ((((a.toNat / 2 ^ ((stp n r).2 - 1)) % 2) : Nat) = 0)) rfl b4 rfl) rfl ?_
     refine s_y (v := .bool false) (y_assign rfl) rfl ?_
     refine wpL_nil ?_
     refine thenS_n ?_
     refine wpS_ret ?_
     refine fin1 (v := .bool false) (.inr rfl) .nil Try.results59 rfl ?_
     exact fun w' hs => ⟨(by unfold up; simp [*]), hs⟩
   ·
    have p3 := of_decide_eq_false b3
    refine s_no rfl rfl rfl rfl (b' := decide ((a : Int) < n)) rfl b3 ?_
    refine s_no rfl rfl rfl rfl (b' := decide ((a : Int) < n)) rfl b3 ?_
    refine s_no rfl rfl rfl rfl (b' := decide ((a : Int) < n)) rfl b3 ?_
    refine s_no rfl rfl rfl rfl (b' := decide ((a : Int) < n)) rfl b3 ?_
    refine s_no rfl rfl rfl rfl (b' := decide ((a : Int) < n)) rfl b3 ?_
    refine s_no rfl rfl rfl rfl (b' := decide ((a : Int) < n)) rfl b3 ?_
    refine s_y (v := .bool false) (y_pickF (b := decide ((a : Int) < n)) rfl b3 rfl) rfl ?_
    refine s_y (v := .bool false) (y_move rfl) rfl ?_
    refine s_no rfl rfl rfl rfl rfl rfl ?_
    refine s_no rfl rfl rfl rfl rfl rfl ?_
    refine s_no rfl rfl rfl rfl rfl rfl ?_
    refine s_no rfl rfl rfl rfl rfl rfl ?_
    refine s_no rfl rfl rfl rfl rfl rfl ?_
    refine s_y (v := .bool false) (y_pickF rfl rfl rfl) rfl ?_
    refine s_y (v := .bool false) (y_assign rfl) rfl ?_
    refine wpL_nil ?_
    refine thenS_n ?_
    refine wpS_ret ?_
    refine fin1 (v := .bool false) (.inr rfl) .nil Try.results59 rfl ?_
    exact fun w' hs => ⟨(by unfold up; simp [*]), hs⟩
  ·
   have p2 := of_decide_eq_false b2
   refine s_no rfl rfl rfl rfl (b' := decide ((0 : Int) ≤ a)) rfl b2 ?_
   refine s_no rfl rfl rfl rfl (b' := decide ((0 : Int) ≤ a)) rfl b2 ?_
   refine s_no rfl rfl rfl rfl (b' := decide ((0 : Int) ≤ a)) rfl b2 ?_
   refine s_y (v := .bool false) (y_pickF (b := decide ((0 : Int) ≤ a)) rfl b2 rfl) rfl ?_
   refine s_y (v := .bool false) (y_move rfl) rfl ?_
   refine s_no rfl rfl rfl rfl rfl rfl ?_
   refine s_no rfl rfl rfl rfl rfl rfl ?_
   refine s_no rfl rfl rfl rfl rfl rfl ?_
   refine s_no rfl rfl rfl rfl rfl rfl ?_
   refine s_no rfl rfl rfl rfl rfl rfl ?_
   refine s_no rfl rfl rfl rfl rfl rfl ?_
   refine s_y (v := .bool false) (y_pickF rfl rfl rfl) rfl ?_
   refine s_y (v := .bool false) (y_move rfl) rfl ?_
   refine s_no rfl rfl rfl rfl rfl rfl ?_
   refine s_no rfl rfl rfl rfl rfl rfl ?_
   refine s_no rfl rfl rfl rfl rfl rfl ?_
   refine s_no rfl rfl rfl rfl rfl rfl ?_
   refine s_no rfl rfl rfl rfl rfl rfl ?_
   refine s_y (v := .bool false) (y_pickF rfl rfl rfl) rfl ?_
   refine s_y (v := .bool false) (y_assign rfl) rfl ?_
   refine wpL_nil ?_
   refine thenS_n ?_
   refine wpS_ret ?_
   refine fin1 (v := .bool false) (.inr rfl) .nil Try.results59 rfl ?_
   exact fun w' hs => ⟨(by unfold up; simp [*]), hs⟩
 ·
  have p1 := of_decide_eq_false b1
  refine s_no rfl rfl rfl rfl (b' := decide (0 < (stp n r).1)) rfl b1 ?_
  refine s_no rfl rfl rfl rfl (b' := decide (0 < (stp n r).1)) rfl b1 ?_
  refine s_y (v := .bool false) (y_pickF (b := decide (0 < (stp n r).1)) rfl b1 rfl) rfl ?_
  refine s_y (v := .bool false) (y_move rfl) rfl ?_
  refine s_no rfl rfl rfl rfl rfl rfl ?_
  refine s_no rfl rfl rfl rfl rfl rfl ?_
  refine s_no rfl rfl rfl rfl rfl rfl ?_
  refine s_y (v := .bool false) (y_pickF rfl rfl rfl) rfl ?_
  refine s_y (v := .bool false) (y_move rfl) rfl ?_
  refine s_no rfl rfl rfl rfl rfl rfl ?_
  refine s_no rfl rfl rfl rfl rfl rfl ?_
  refine s_no rfl rfl rfl rfl rfl rfl ?_
  refine s_no rfl rfl rfl rfl rfl rfl ?_
  refine s_no rfl rfl rfl rfl rfl rfl ?_
  refine s_no rfl rfl rfl rfl rfl rfl ?_
  refine s_y (v := .bool false) (y_pickF rfl rfl rfl) rfl ?_
  refine s_y (v := .bool false) (y_move rfl) rfl ?_
  refine s_no rfl rfl rfl rfl rfl rfl ?_
  refine s_no rfl rfl rfl rfl rfl rfl ?_
  refine s_no rfl rfl rfl rfl rfl rfl ?_
  refine s_no rfl rfl rfl rfl rfl rfl ?_
  refine s_no rfl rfl rfl rfl rfl rfl ?_
  refine s_y (v := .bool false) (y_pickF rfl rfl rfl) rfl ?_
  refine s_y (v := .bool false) (y_assign rfl) rfl ?_
  refine wpL_nil ?_
  refine thenS_n ?_
  refine wpS_ret ?_
  refine fin1 (v := .bool false) (.inr rfl) .nil Try.results59 rfl ?_
  exact fun w' hs => ⟨(by unfold up; simp [*]), hs⟩
def tri (s : Nat) : Nat := s * (s + 1) / 2
theorem tri_succ (s : Nat) : tri (s + 1) = tri s + (s + 1) := by
  have h : (s + 1) * (s + 1 + 1) = s * (s + 1) + (s + 1) * 2 := by rw [Nat.succ_mul, Nat.mul_succ]; omega
  unfold tri
  rw [h, Nat.add_mul_div_right _ _ (by decide)]
theorem rnd_pow : ∀ k, k < 17 → rnd ((2 ^ k : Nat) : Int) = tri k := by decide +kernel
theorem two_and (k : Nat) : 2 ^ k &&& (2 ^ k - 1) = 0 := by
  apply Nat.eq_of_testBit_eq
  intro i
  rw [Nat.testBit_and, Nat.testBit_two_pow, Nat.testBit_two_pow_sub_one]
  by_cases h : k = i
  · simp [h]
  · simp [h]
structure Par where
  n0 : Int
  n1 : Int
  n2 : Int
  n3 : Int
instance : Inhabited Par := ⟨⟨0, 0, 0, 0⟩⟩
@[reducible] def parV (p : Par) : List Value := [.int .i64 p.n0, .int .i64 p.n1, .int .i64 p.n2, .int .i64 p.n3]
structure Spot where
  s0 : Int
  s1 : Int
  s2 : Int
instance : Inhabited Spot := ⟨⟨0, 0, 0⟩⟩
structure Plan where
  q0 : Int
  q1 : Int
  q2 : Int
  q3 : Int
  q4 : Int
  q5 : Int
  q6 : Int
  q7 : Int
  q8 : Int
  q9 : Int
instance : Inhabited Plan := ⟨⟨0, 0, 0, 0, 0, 0, 0, 0, 0, 0⟩⟩
def cdv (a b : Int) : Int := (a - 1) / b + 1
theorem cdv_bd {a b : Int} (h0 : 1 ≤ a) (h1 : a ≤ 64) (h2 : 1 ≤ b) : 1 ≤ cdv a b ∧ cdv a b ≤ 64 := by
  unfold cdv
  have h3 : 0 ≤ (a - 1) / b := Int.ediv_nonneg (by omega) (by omega)
  have h4 : (a - 1) / b ≤ a - 1 := Int.ediv_le_self b (by omega)
  omega
theorem cdv_up {a b : Int} (h2 : 1 ≤ b) : (a + b - 1) / b = cdv a b := by
  unfold cdv
  rw [show a + b - 1 = (a - 1) + b * 1 by omega, Int.add_mul_ediv_left _ _ (by omega)]
theorem q_wrap {a b : Int} (h0 : 0 ≤ a) (h1 : a < 1000) (h2 : 1 ≤ b) : IntKind.i64.wrap (a.tdiv b) = a / b := z_quo h0 (by omega) (by omega)
theorem q_bd {a b : Int} (h0 : 1 ≤ a) (h1 : a ≤ 64) (h2 : 1 ≤ b) : 0 ≤ (a - 1) / b ∧ (a - 1) / b ≤ 63 := by have := cdv_bd h0 h1 h2; unfold cdv at this; omega
theorem up_wrap {a b : Int} (h0 : 1 ≤ a) (h1 : a ≤ 64) (h2 : 1 ≤ b) (h3 : b ≤ 8) : IntKind.i64.wrap ((a + b - 1).tdiv b) = cdv a b := by
  rw [z_quo (by omega) (by omega) (by omega)]
  exact cdv_up h2
theorem nb_bd {a c : Int} (h0 : 1 ≤ a) (h1 : a ≤ 4) (h2 : 1 ≤ c) (h3 : c ≤ 64) : 1 ≤ a * c ∧ a * c ≤ 256 := by
  have h4 : 0 < a * c := Int.mul_pos (by omega) (by omega)
  have h5 : a * c ≤ 4 * c := Int.mul_le_mul_of_nonneg_right h1 (by omega)
  omega
theorem nb_wrap {a c : Int} (h0 : 1 ≤ a) (h1 : a ≤ 4) (h2 : 1 ≤ c) (h3 : c ≤ 64) : IntKind.i64.wrap (a * c) = a * c := by
  have := nb_bd h0 h1 h2 h3
  exact wI rfl (by omega) (by omega)
def ok (p : Par) : Bool := decide (1 ≤ p.n0 ∧ p.n0 ≤ 64 ∧ 1 ≤ p.n1 ∧ p.n1 ≤ 4 ∧ 1 ≤ p.n2 ∧ p.n2 ≤ 8 ∧ 1 ≤ p.n3 ∧ p.n3 ≤ 4 ∧ p.n1 * cdv p.n0 p.n2 < 32)
theorem ok_bd {p : Par} (h : ok p = true) : 1 ≤ p.n0 ∧ p.n0 ≤ 64 ∧ 1 ≤ p.n1 ∧ p.n1 ≤ 4 ∧ 1 ≤ p.n2 ∧ p.n2 ≤ 8 ∧ 1 ≤ p.n3 ∧ p.n3 ≤ 4 ∧ p.n1 * cdv p.n0 p.n2 < 32 := of_decide_eq_true h
theorem ok_cdv {p : Par} (h : ok p = true) : 1 ≤ cdv p.n0 p.n2 ∧ cdv p.n0 p.n2 ≤ 64 := by have := ok_bd h; exact cdv_bd (by omega) (by omega) (by omega)
def bad (p : Par) : Int := if ok p then 0 else 1
theorem bad_0 {p : Par} (h : 1 ≤ p.n0 ∧ p.n0 ≤ 64 ∧ 1 ≤ p.n1 ∧ p.n1 ≤ 4 ∧ 1 ≤ p.n2 ∧ p.n2 ≤ 8 ∧ 1 ≤ p.n3 ∧ p.n3 ≤ 4 ∧ p.n1 * cdv p.n0 p.n2 < 32) : bad p = 0 := by unfold bad; rw [if_pos (by unfold ok; exact decide_eq_true h)]
theorem bad_1 {p : Par} (h : ¬ (1 ≤ p.n0 ∧ p.n0 ≤ 64 ∧ 1 ≤ p.n1 ∧ p.n1 ≤ 4 ∧ 1 ≤ p.n2 ∧ p.n2 ≤ 8 ∧ 1 ≤ p.n3 ∧ p.n3 ≤ 4 ∧ p.n1 * cdv p.n0 p.n2 < 32)) : bad p = 1 := by unfold bad; rw [if_neg (fun h2 => h (ok_bd h2))]
theorem bad_yes {p : Par} (h : bad p = 0) : ok p = true := by
  unfold bad at h
  split at h
  · assumption
  · omega
theorem bad_no {p : Par} (h : ¬ bad p = 0) : ok p = false := by
  unfold bad at h
  split at h
  · exact absurd rfl h
  · exact Bool.eq_false_iff.2 (by assumption)
def bk (p : Par) : Int := if ok p then cdv p.n0 p.n2 else 0
def sl (p : Par) : Nat := if ok p then pad (p.n1 * cdv p.n0 p.n2 + 1) else 0
theorem bk_yes {p : Par} (h : ok p = true) : bk p = cdv p.n0 p.n2 := by unfold bk; rw [if_pos h]
theorem bk_no {p : Par} (h : ok p = false) : bk p = 0 := by unfold bk; rw [if_neg (by rw [h]; decide)]
theorem sl_yes {p : Par} (h : ok p = true) : sl p = pad (p.n1 * cdv p.n0 p.n2 + 1) := by unfold sl; rw [if_pos h]
theorem sl_no {p : Par} (h : ok p = false) : sl p = 0 := by unfold sl; rw [if_neg (by rw [h]; decide)]
def behind (a b c d : Int) : Spot := if c = 0 then ⟨b, 0, d⟩ else ⟨a, c, d⟩
structure Opc where
  o0 : Int
  o1 : Int
  o2 : Int
  o3 : Int
  o4 : Int
  o5 : Int64
deriving DecidableEq
instance : Inhabited Opc := ⟨⟨0, 0, 0, 0, 0, 0⟩⟩
@[reducible] def opcV (p : Opc) : List Value := [.int .i64 p.o0, .int .i64 p.o1, .int .i64 p.o2, .int .i64 p.o3, .int .i64 p.o4, .int .i64 p.o5.toInt]
theorem opcV_len (p : Opc) : (opcV p).length = 6 := rfl
theorem opcV_one (p : Opc) : (opcV p).all Value.oneCell' = true := rfl
def rOk (r : Int) : Bool := decide (0 ≤ r ∧ r < 8)
def opOk (k : Int) (o : Opc) : Bool := decide (1 ≤ o.o0 ∧ o.o0 ≤ 12) && (rOk o.o1 && rOk o.o2 && rOk o.o3 && rOk o.o4) && (decide (o.o0 ≠ 12) || decide (0 ≤ o.o5.toInt ∧ o.o5.toInt < k))
def partOk (k : Int) (l : List Opc) : Bool := decide (l.length ≤ 40) && l.all (opOk k)
def chkB (k : Int) (a b c : List Opc) : Bool := decide (1 ≤ k ∧ k ≤ 4) && (partOk k a && partOk 0 b && partOk 0 c)
def chk11 (k : Int) (a b c : List Opc) : Int := if chkB k a b c then 0 else 8
def one64 (b : Bool) : Int64 := bif b then 1 else 0
def madeV (o : Opc) (a b c : Int64) : Int64 :=
  if o.o0 = 1 then o.o5
  else if o.o0 = 2 then a + b
  else if o.o0 = 3 then a - b
  else if o.o0 = 4 then a * b
  else if o.o0 = 5 then a &&& b
  else if o.o0 = 6 then a ||| b
  else if o.o0 = 7 then a ^^^ b
  else if o.o0 = 8 then one64 (decide (a < b))
  else if o.o0 = 9 then one64 (decide (a = b))
  else if o.o0 = 10 then (if a = 0 then c else b)
  else a >>> (b &&& 63)
def emitR (q a b c : Int64) : Rec := if c = 0 then ⟨true, 0, 0, 0⟩ else ⟨false, a, b, q⟩
structure Mach where
  r : List Int64
  s : List Rec
def rg (m : Mach) (i : Int) : Int64 := m.r.getD i.toNat 0
def stepM (q : Int64) (m : Mach) (o : Opc) : Mach :=
  if o.o0 = 12 then ⟨m.r, m.s.set o.o5.toInt.toNat (emitR (q + o.o5) (rg m o.o2) (rg m o.o3) (rg m o.o4))⟩
  else ⟨m.r.set o.o1.toNat (madeV o (rg m o.o2) (rg m o.o3) (rg m o.o4)), m.s⟩
def runM (q : Int64) (m : Mach) (l : List Opc) : Mach := l.foldl (stepM q) m
theorem runM_app (q : Int64) (m : Mach) (l z : List Opc) : runM q m (l ++ z) = runM q (runM q m l) z := List.foldl_append
theorem runM_step {q : Int64} {m : Mach} {l : List Opc} {i : Nat} (h : i < l.length) : runM q m (l.take (i + 1)) = stepM q (runM q m (l.take i)) (l.getD i default) := by
  rw [List.take_succ_eq_append_getElem h, runM_app, List.getD_eq_getElem?_getD, List.getElem?_eq_getElem h]
  rfl
theorem stepM_r (q : Int64) (m : Mach) (o : Opc) : (stepM q m o).r.length = m.r.length := by unfold stepM; split <;> simp
theorem stepM_s (q : Int64) (m : Mach) (o : Opc) : (stepM q m o).s.length = m.s.length := by unfold stepM; split <;> simp
theorem runM_r (q : Int64) (l : List Opc) : ∀ m : Mach, (runM q m l).r.length = m.r.length := by
  induction l with
  | nil => intro m; rfl
  | cons o l ih => intro m; show (runM q (stepM q m o) l).r.length = _; rw [ih, stepM_r]
theorem runM_s (q : Int64) (l : List Opc) : ∀ m : Mach, (runM q m l).s.length = m.s.length := by
  induction l with
  | nil => intro m; rfl
  | cons o l ih => intro m; show (runM q (stepM q m o) l).s.length = _; rw [ih, stepM_s]
def zreg (a b c : Int64) : List Int64 := [a, b, c, 0, 0, 0, 0, 0]
def mapP (k : Int) (l : List Opc) (n a b : Int64) : List Rec := (runM (n * Int64.ofInt k) ⟨zreg a b n, List.replicate k.toNat deadR⟩ l).s
def doneP (l : List Opc) (a b : Int64) : Int64 := (runM 0 ⟨zreg a b 0, []⟩ l).r.getD 0 0
theorem part_at {k : Int} {l : List Opc} (h : partOk k l = true) {i : Nat} (hi : i < l.length) : opOk k (l.getD i default) = true := by
  unfold partOk at h
  rw [Bool.and_eq_true, List.all_eq_true] at h
  refine h.2 _ ?_
  rw [List.getD_eq_getElem?_getD, List.getElem?_eq_getElem hi]
  exact List.getElem_mem hi
theorem part_len {k : Int} {l : List Opc} (h : partOk k l = true) : l.length ≤ 40 := by
  unfold partOk at h
  rw [Bool.and_eq_true] at h
  exact of_decide_eq_true h.1
theorem op_regs {k : Int} {o : Opc} (h : opOk k o = true) : 1 ≤ o.o0 ∧ o.o0 ≤ 12 ∧ 0 ≤ o.o1 ∧ o.o1 < 8 ∧ 0 ≤ o.o2 ∧ o.o2 < 8 ∧ 0 ≤ o.o3 ∧ o.o3 < 8 ∧ 0 ≤ o.o4 ∧ o.o4 < 8 := by
  unfold opOk rOk at h
  simp only [Bool.and_eq_true, decide_eq_true_eq] at h
  omega
theorem op_slot {k : Int} {o : Opc} (h : opOk k o = true) (h2 : o.o0 = 12) : 0 ≤ o.o5.toInt ∧ o.o5.toInt < k := by
  unfold opOk at h
  simp only [Bool.and_eq_true, Bool.or_eq_true, decide_eq_true_eq] at h
  rcases h.2 with h3 | h3
  · exact absurd h2 h3
  · exact h3
theorem chk_yes {k : Int} {a b c : List Opc} (h : chk11 k a b c = 0) : chkB k a b c = true := by
  unfold chk11 at h
  split at h
  · assumption
  · exact absurd h (by decide)
theorem chk_bd {k : Int} {a b c : List Opc} (h : chkB k a b c = true) : 1 ≤ k ∧ k ≤ 4 ∧ partOk k a = true ∧ partOk 0 b = true ∧ partOk 0 c = true := by
  unfold chkB at h
  simp only [Bool.and_eq_true, decide_eq_true_eq] at h
  exact ⟨h.1.1, h.1.2, h.2.1.1, h.2.1.2, h.2.2⟩
theorem chk_0 {k : Int} {a b c : List Opc} (h : chkB k a b c = true) : chk11 k a b c = 0 := by unfold chk11; rw [if_pos h]
theorem chk_8 {k : Int} {a b c : List Opc} (h : chkB k a b c = false) : chk11 k a b c = 8 := by unfold chk11; rw [if_neg (by rw [h]; decide)]
end Go.Proofs.Ytldkjjnjdjfipaa
namespace Go.Proofs.Ytldkjjnjdjfipaa
open Go Go.RowKit
set_option linter.unusedVariables false
set_option linter.unusedSimpArgs false
set_option maxRecDepth 20000
section
variable {P : Program} {w0 : World} {D : List Nat} {σ : Fr} {L M : List Res}
theorem e_storeW {t : TypeId} {a x : Operand} {b : Nat} {ty' : TypeId} {l vs : List Value} {v : Value} {k : Nat} {K : Value → List Res → Prop} {d : Option Tmp} {ty : TypeId} {pos : String} {af : Array Edge} {g : Option (Nat × Bool)}
    (ha : ev σ a = .pointer (some ⟨b, 0, none⟩)) (hx : ev σ x = v) (hv : v.cells = vs.toArray) (h1 : vs.all Value.oneCell' = true) (hs : ∀ w, (sizeOf t).run P w = .ok k w) (hk : vs.length = k) (hp : Pick L (cel b ty' l) M) (hfit : l.length = k)
    (hK : K undef (cel b ty' vs :: M)) : OpE P w0 D σ L ⟨d, .store t a x, ty, pos, af, g⟩ K := by
  subst hk
  exact e_store ha hx hv h1 hs hp (by omega) (by rw [List.take_zero, List.drop_of_length_le (by omega), List.nil_append, List.append_nil]) hK
theorem y_loadW {t : TypeId} {x : Operand} {b o : Nat} {vs : List Value} {k : Nat} (hx : ev σ x = .pointer (some ⟨b, o, none⟩)) (ha : ∀ w, (isAgg t).run P w = .ok true w) (hs : ∀ w, (sizeOf t).run P w = .ok k w) (hk : vs.length = k) (h : ∀ w, SH w0 D L w → CellsAt w b o vs) :
    OpR P w0 D σ L (.load t x) (.agg vs.toArray) := by
  subst hk
  exact y_loadN hx ha hs h
theorem rvCW {w : World} {a : Tmp} {t : TypeId} {b : Nat} {vs : List Value} {k : Nat} (hx : σ a = .pointer (some ⟨b, 0, none⟩)) (ha : ∀ w, (isAgg t).run P w = .ok true w) (hz : ∀ w, (sizeOf t).run P w = .ok k w) (hk : vs.length = k) (h : ∀ w', SH w D M w' → CellsAt w' b 0 vs) :
    ∀ w', SH w D M w' → (evRV σ (.cell a t)).run P w' = .ok (.agg vs.toArray) w' := by
  subst hk
  exact rvC hx ha hz h
end
end Go.Proofs.Ytldkjjnjdjfipaa
namespace Go.Proofs.Ytldkjjnjdjfipaa
open Go Go.RowKit
set_option linter.unusedVariables false
set_option linter.unusedSimpArgs false
set_option maxRecDepth 10000
def ahd (sq : Bool) (a b : Rec) : Bool := if sq then before a b else ahead a b
theorem stands_c (a b : Rec) (q : Bool) (w : World) : Pure Try.prog 169 #[.agg #[.bool a.dead, .int .i64 a.key.toInt, .int .i64 a.value.toInt, .int .i64 a.seq.toInt], .agg #[.bool b.dead, .int .i64 b.key.toInt, .int .i64 b.value.toInt, .int .i64 b.seq.toInt], .bool q] w (.int .u64 ((b64 (ahd q b a)).toNat)) := by
 refine calls_S (n := 14) (σ0 := (upd (upd (upd fr0 0 (.agg #[.bool a.dead, .int .i64 a.key.toInt, .int .i64 a.value.toInt, .int .i64 a.seq.toInt])) 1 (.agg #[.bool b.dead, .int .i64 b.key.toInt, .int .i64 b.value.toInt, .int .i64 b.seq.toInt])) 2 (.bool q))) (D := []) (A := []) Try.func169 rfl Try.ntmps169 rfl (a3_fr _ _ _) (SH.start w) ?_
 refine wpS_seq ?_
 refine wpS_region ?_
 refine s_e rfl ?_
 refine e_box (v := .agg #[.bool a.dead, .int .i64 a.key.toInt, .int .i64 a.value.toInt, .int .i64 a.seq.toInt]) (l := [.bool a.dead, .int .i64 a.key.toInt, .int .i64 a.value.toInt, .int .i64 a.seq.toInt]) rfl rfl ?_
 intro b_1
 refine s_e rfl ?_
 refine e_box (v := .agg #[.bool b.dead, .int .i64 b.key.toInt, .int .i64 b.value.toInt, .int .i64 b.seq.toInt]) (l := [.bool b.dead, .int .i64 b.key.toInt, .int .i64 b.value.toInt, .int .i64 b.seq.toInt]) rfl rfl ?_
 intro b_2
 refine s_y (v := .int .u64 0) (y_assign rfl) rfl ?_
 refine wpL_nil ?_
 refine thenS_n ?_
 refine wpS_seq ?_
 refine wpS_seq ?_
 refine wpS_region ?_
 refine s_y (v := .bool q) (y_move rfl) rfl ?_
 refine wpL_nil ?_
 refine thenS_n ?_
 refine wpS_cond (t := q) rfl (fun b3 => ?_) (fun b3 => ?_)
 ·
  refine wpS_seq ?_
  refine wpS_region ?_
  refine s_y (v := .agg #[.bool b.dead, .int .i64 b.key.toInt, .int .i64 b.value.toInt, .int .i64 b.seq.toInt]) (y_loadN rfl Try.isAgg23 Try.sizeOf23 (ownN .h rfl)) rfl ?_
  refine s_y (v := .agg #[.bool a.dead, .int .i64 a.key.toInt, .int .i64 a.value.toInt, .int .i64 a.seq.toInt]) (y_loadN rfl Try.isAgg23 Try.sizeOf23 (ownN (.t .h) rfl)) rfl ?_
  refine s_y (v := .int .u64 ((b64 (before b a)).toNat)) (y_call (args := #[.agg #[.bool b.dead, .int .i64 b.key.toInt, .int .i64 b.value.toInt, .int .i64 b.seq.toInt], .agg #[.bool a.dead, .int .i64 a.key.toInt, .int .i64 a.value.toInt, .int .i64 a.seq.toInt]]) Try.call42 (ev2 rfl rfl) (fun w hs => before_c b a w)) rfl ?_
  refine s_y (v := .int .u64 ((b64 (before b a)).toNat)) (y_assign rfl) rfl ?_
  refine wpL_nil ?_
  refine thenS_n ?_
  refine wpS_ret ?_
  refine thenS_r ?_
  refine fin1 (v := .int .u64 ((b64 (before b a)).toNat)) (.inr rfl) .nil Try.results169 rfl ?_
  exact fun w' hs => ⟨(by simp [ahd, *]), hs⟩
 ·
  refine wpS_skip ?_
  refine thenS_n ?_
  refine wpS_seq ?_
  refine wpS_region ?_
  refine s_y (v := .agg #[.bool b.dead, .int .i64 b.key.toInt, .int .i64 b.value.toInt, .int .i64 b.seq.toInt]) (y_loadN rfl Try.isAgg23 Try.sizeOf23 (ownN .h rfl)) rfl ?_
  refine s_y (v := .agg #[.bool a.dead, .int .i64 a.key.toInt, .int .i64 a.value.toInt, .int .i64 a.seq.toInt]) (y_loadN rfl Try.isAgg23 Try.sizeOf23 (ownN (.t .h) rfl)) rfl ?_
  refine s_y (v := .int .u64 ((b64 (ahead b a)).toNat)) (y_call (args := #[.agg #[.bool b.dead, .int .i64 b.key.toInt, .int .i64 b.value.toInt, .int .i64 b.seq.toInt], .agg #[.bool a.dead, .int .i64 a.key.toInt, .int .i64 a.value.toInt, .int .i64 a.seq.toInt]]) Try.call43 (ev2 rfl rfl) (fun w hs => ahead_c b a w)) rfl ?_
  refine s_y (v := .int .u64 ((b64 (ahead b a)).toNat)) (y_assign rfl) rfl ?_
  refine wpL_nil ?_
  refine thenS_n ?_
  refine wpS_ret ?_
  refine fin1 (v := .int .u64 ((b64 (ahead b a)).toNat)) (.inr rfl) .nil Try.results169 rfl ?_
  exact fun w' hs => ⟨(by simp [ahd, *]), hs⟩
theorem clone_c (a : Option Addr) (n c : Nat) (l : List Rec) (w : World) (hn : l.length = n) (hr : Rds w a (l.flatMap recV)) (hb : n ≤ 1000000) : MakesS Try.prog 168 #[.slice a n c] w [] recV 4 23 l := by
 refine calls_S (n := 8) (σ0 := (upd fr0 0 (.slice a n c))) (D := []) (A := []) Try.func168 rfl Try.ntmps168 rfl (a1_fr _) (SH.start w) ?_
 refine wpS_seq ?_
 refine wpS_region ?_
 refine s_y (v := .slice none 0 0) (y_assign rfl) rfl ?_
 refine wpL_nil ?_
 refine thenS_n ?_
 refine wpS_seq ?_
 refine wpS_seq ?_
 refine wpS_region ?_
 refine s_y (v := .slice a n c) (y_move rfl) rfl ?_
 refine s_y (v := .bool (a.isNone)) (y_isNil rfl rfl Try.underlying69 (by kernel_rfl)) rfl ?_
 refine wpL_nil ?_
 refine thenS_n ?_
 refine wpS_cond (t := a.isNone) rfl (fun b1 => ?_) (fun b1 => ?_)
 ·
  have hn_nil : a = none := by simpa using b1
  refine wpS_seq ?_
  refine wpS_region ?_
  refine s_y (v := .slice none 0 0) (y_assign rfl) rfl ?_
  refine wpL_nil ?_
  refine thenS_n ?_
  refine wpS_ret ?_
  refine thenS_r ?_
  refine finNil (.inr rfl) .nil Try.results168 rfl (sz := 4) (ty := 23) ?_
  exact fun w' hs => ⟨(none, 0), by rw [show l = [] from (rds_none recV_len (by decide) hr hn_nil)]; rfl, by rw [show l = [] from (rds_none recV_len (by decide) hr hn_nil)]; exact hs, trivial⟩
 ·
  refine wpS_skip ?_
  refine thenS_n ?_
  refine wpS_seq ?_
  refine wpS_region ?_
  refine s_e rfl ?_
  refine e_bsliceL (e := 23) (m := []) (l := []) evn (fun w => by kernel_rfl) ?_
  intro b_2
  refine s_y (v := .slice a n c) (y_move rfl) rfl ?_
  refine s_e rfl ?_
  refine OpE.ent (SH.celO (n := 0) (sz := 4) .h rfl (by decide)) ?_
  refine e_appendL (enc := recV) (xs := ([] : List Rec)) (ns := (l : List Rec)) (zs := l) (bytes := 32) recV_len recV_one Try.underlying69 (i := Try.t23) rfl rfl rfl rfl rfl (by decide) rfl rfl (by first | rfl | omega) (by first | rfl | omega) .h (oldR hr) (by first | rfl | simp) (by (try simp only [List.length_append, List.length_cons, List.length_nil] at *); omega) (by (try simp only [List.length_append, List.length_cons, List.length_nil] at *); omega) ?_
  intro a_4 c_5
  refine s_y (v := .slice a_4 l.length c_5) (y_assign rfl) rfl ?_
  refine wpL_nil ?_
  refine thenS_n ?_
  refine wpS_ret ?_
  refine fin1 (M := [osl a_4 c_5 l.length 4 23 (l.flatMap recV)]) (v := .slice a_4 l.length c_5) (.inr rfl) (.p .h .nil) Try.results168 rfl ?_
  exact fun w' hs => ⟨(a_4, c_5), rfl, hs, trivial⟩
def swp (sq : Bool) (i : Nat) (x : List Rec) : List Rec := if ahd sq (x.getD (i + 1) default) (x.getD i default) then (x.set i (x.getD (i + 1) default)).set (i + 1) (x.getD i default) else x
def srow (sq : Bool) (r n i : Nat) (x : List Rec) : List Rec := if i + 1 < n then srow sq r n (i + 1) (if i % 2 = r % 2 then swp sq i x else x) else x
termination_by n - i
def srows (sq : Bool) (n r : Nat) (y : List Rec) : List Rec := if r < n then srows sq n (r + 1) (srow sq r n 0 y) else y
termination_by n - r
def msort (sq : Bool) (l : List Rec) : List Rec := srows sq l.length 0 l
theorem srow_next {sq : Bool} {r n i : Nat} {x : List Rec} (h : i + 1 < n) : srow sq r n i x = srow sq r n (i + 1) (if i % 2 = r % 2 then swp sq i x else x) := by rw [srow, if_pos h]
theorem srow_end {sq : Bool} {r n i : Nat} {x : List Rec} (h : ¬ i + 1 < n) : srow sq r n i x = x := by rw [srow, if_neg h]
theorem srows_next {sq : Bool} {r n : Nat} {x : List Rec} (h : r < n) : srows sq n r x = srows sq n (r + 1) (srow sq r n 0 x) := by rw [srows, if_pos h]
theorem srows_done {sq : Bool} {n : Nat} : ∀ {r : Nat} {x : List Rec}, (¬ r < n ∨ n < 2) → srows sq n r x = x := by
  intro r x h
  induction r, x using srows.induct (sq := sq) (n := n) with
  | case1 r x hlt ih => rw [srows_next hlt, srow_end (by omega)]; rw [srow_end (by omega)] at ih; exact ih (by omega)
  | case2 r x hlt => rw [srows, if_neg hlt]
theorem getD_set_self {α : Type} [Inhabited α] (x : List α) (i : Nat) : x.set i (x.getD i default) = x := by
  apply List.ext_getElem (by simp)
  intro k h1 h2
  rw [List.getElem_set]
  split
  · subst_vars; simp [List.getD_eq_getElem?_getD, h2]
  · rfl
theorem swp_eq1 (sq : Bool) (i : Nat) (x : List Rec) : (x.set i (pickR (b64 (ahd sq (x.getD (i + 1) default) (x.getD i default))) (x.getD (i + 1) default) (x.getD i default))).set (i + 1) (pickR (b64 (ahd sq (x.getD (i + 1) default) (x.getD i default))) (x.getD i default) (x.getD (i + 1) default)) = swp sq i x := by
  unfold swp
  cases ahd sq (x.getD (i + 1) default) (x.getD i default) with
  | true => simp [pickR, b64]
  | false =>
    have e : ∀ a b : Rec, pickR (b64 false) a b = b := fun a b => by simp [pickR, b64]
    rw [e, e, getD_set_self, getD_set_self]
    rfl
theorem swp_eq2 (sq : Bool) (i : Nat) (x : List Rec) : (x.set (i + 1) (pickR (b64 (ahd sq (x.getD (i + 1) default) (x.getD i default))) (x.getD i default) (x.getD (i + 1) default))).set i (pickR (b64 (ahd sq (x.getD (i + 1) default) (x.getD i default))) (x.getD (i + 1) default) (x.getD i default)) = swp sq i x := by
  rw [List.set_comm _ _ (by omega), swp_eq1]
theorem swp_len (sq : Bool) (i : Nat) (x : List Rec) : (swp sq i x).length = x.length := by unfold swp; split <;> simp
theorem sort_c (a : Option Addr) (n c : Nat) (l : List Rec) (sq : Bool) (w : World) (hn : l.length = n) (hr : Rds w a (l.flatMap recV)) (hb : n ≤ 1000000) : MakesS Try.prog 74 #[.slice a n c, .bool sq] w [] recV 4 23 (msort sq l) := by
 refine calls_S (n := 72) (σ0 := (upd (upd fr0 0 (.slice a n c)) 1 (.bool sq))) (D := []) (A := []) Try.func74 rfl Try.ntmps74 rfl (a2_fr _ _) (SH.start w) ?_
 refine wpS_seq ?_
 refine wpS_region ?_
 refine s_y (v := .slice none 0 0) (y_assign rfl) rfl ?_
 refine wpL_nil ?_
 refine thenS_n ?_
 refine wpS_scope ?_
 refine wpS_seq ?_
 refine wpS_region ?_
 refine s_y (v := .slice a n c) (y_move rfl) rfl ?_
 refine s_e rfl ?_
 refine e_call (f := 168) (args := #[.slice a n c]) (X := Option Addr × Nat) (A := []) (M := []) (V := slV l) (A' := fun x => [slR recV 4 23 l x]) (C := fun x => l.length ≤ x.2) Try.call168 (ev1 rfl) (.nil) (fun w hs => (clone_c a n c l w hn ((oldR hr) w hs) (by omega)).cap) ?_
 rintro ⟨a_1, c_2⟩ hc3; replace hc3 : l.length ≤ c_2 := hc3
 refine s_y (v := .slice a_1 l.length c_2) (y_assign rfl) rfl ?_
 refine wpL_nil ?_
 refine thenS_n ?_
 refine wpS_seq ?_
 refine wpS_label ?_
 refine thenS_n ?_
 refine wpS_seq ?_
 refine wpS_seq ?_
 refine wpS_region ?_
 refine s_y (v := .slice a_1 l.length c_2) (y_move rfl) rfl ?_
 refine s_y (v := .int .i64 ((l.length : Nat) : Int)) (y_len (ty' := 0) (at_ := #[]) rfl Try.underlying69) rfl ?_
 refine s_y (v := .int .i64 0) (y_move rfl) rfl ?_
 refine wpL_nil ?_
 refine thenS_n ?_
 refine wpS_block ?_
 refine wpS_loop (fun m ds σ L => ∃ r : Nat, ∃ y : List Rec, m = l.length - r ∧ r ≤ l.length ∧ y.length = l.length ∧ srows sq l.length r y = srows sq l.length 0 l ∧ ds = [] ∧ σ 0 = .slice a_1 l.length c_2 ∧ σ 1 = .bool sq ∧ σ 11 = .int .i64 ((l.length : Nat) : Int) ∧ σ 12 = .int .i64 ((r : Nat) : Int) ∧ Ent L [osl a_1 c_2 l.length 4 23 (y.flatMap recV)]) (m0 := l.length - 0) ⟨0, l, rfl, by omega, rfl, rfl, rfl, rfl, rfl, rfl, rfl, .p .h .nil⟩ ?_
 rintro m ds σ L ⟨r, y, hm_4, hf0_4, hf1_4, hf2_4, rfl, h0_4, h1_4, h11_4, h12_4, hE_4⟩
 refine wpS_ent hE_4 ?_; clear hE_4
 refine wpS_seq ?_
 refine wpS_region ?_
 refine s_y (v := .bool (decide (r < l.length))) (y_lss (a := ((r : Nat) : Int)) (b := ((l.length : Nat) : Int)) (c := decide (r < l.length)) h12_4 h11_4 (by simp only [decide_eq_decide]; omega)) rfl ?_
 refine wpL_nil ?_
 refine thenS_n ?_
 refine wpS_seq ?_
 refine wpS_cond (t := decide (r < l.length)) rfl (fun b5 => ?_) (fun b5 => ?_)
 ·
  have p5 := of_decide_eq_true b5
  refine wpS_skip ?_
  refine thenS_n ?_
  refine wpS_seq ?_
  refine wpS_block ?_
  refine wpS_seq ?_
  refine wpS_region ?_
  refine s_y (v := .int .i64 ((r : Nat) : Int)) (y_move h12_4) rfl ?_
  refine s_y (v := .int .i64 ((r : Nat) : Int)) (y_assign rfl) rfl ?_
  refine wpL_nil ?_
  refine thenS_n ?_
  refine wpS_scope ?_
  refine wpS_seq ?_
  refine wpS_seq ?_
  refine wpS_region ?_
  refine s_y (v := .slice a_1 l.length c_2) (y_move h0_4) rfl ?_
  refine s_y (v := .int .i64 ((l.length : Nat) : Int)) (y_len (ty' := 0) (at_ := #[]) rfl Try.underlying69) rfl ?_
  refine s_y (v := .bool (decide ((l.length : Nat) < 2))) (y_lss (a := ((l.length : Nat) : Int)) (b := 2) (c := decide ((l.length : Nat) < 2)) rfl rfl (by simp only [decide_eq_decide]; omega)) rfl ?_
  refine wpL_nil ?_
  refine thenS_n ?_
  refine wpS_cond (t := decide ((l.length : Nat) < 2)) rfl (fun b6 => ?_) (fun b6 => ?_)
  ·
   have p6 := of_decide_eq_true b6
   refine wpS_exit ?_
   refine thenS_x ?_
   refine scopeS_x ?_
   refine blockS_m rfl ?_
   refine thenS_x ?_
   refine thenS_x ?_
   refine blockS_h ?_
   refine thenS_n ?_
   refine wpS_seq ?_
   refine wpS_region ?_
   refine s_y (v := .slice a_1 l.length c_2) (y_move h0_4) rfl ?_
   refine s_y (v := .slice a_1 l.length c_2) (y_assign rfl) rfl ?_
   refine wpL_nil ?_
   refine thenS_n ?_
   refine wpS_ret ?_
   refine scopeS_r ?_
   refine fin1 (M := [osl a_1 c_2 l.length 4 23 (y.flatMap recV)]) (v := .slice a_1 l.length c_2) (.inr rfl) (.p .h .nil) Try.results74 rfl ?_
   exact fun w' hs => ⟨(a_1, c_2), by rw [show (msort sq l) = y from (by unfold msort; rw [← (by assumption : srows sq l.length r y = srows sq l.length 0 l), srows_done (by omega)])]; simp only [slV, show y.length = l.length from by omega], by rw [show (msort sq l) = y from (by unfold msort; rw [← (by assumption : srows sq l.length r y = srows sq l.length 0 l), srows_done (by omega)])]; simp only [slR, show y.length = l.length from by omega]; exact hs, trivial⟩
  ·
   have p6 := of_decide_eq_false b6
   refine wpS_skip ?_
   refine thenS_n ?_
   refine wpS_seq ?_
   refine wpS_label ?_
   refine thenS_n ?_
   refine wpS_seq ?_
   refine wpS_region ?_
   refine s_y (v := .slice a_1 l.length c_2) (y_move h0_4) rfl ?_
   refine s_y (v := .int .i64 ((l.length : Nat) : Int)) (y_len (ty' := 0) (at_ := #[]) rfl Try.underlying69) rfl ?_
   refine s_y (v := .int .i64 (((l.length : Nat) : Int) - 1)) (y_sub (a := ((l.length : Nat) : Int)) (b := 1) rfl rfl (wI rfl (by omega) (by omega))) rfl ?_
   refine s_y (v := .int .i64 0) (y_move rfl) rfl ?_
   refine wpL_nil ?_
   refine thenS_n ?_
   refine wpS_block ?_
   refine wpS_loop (fun m ds σ L => ∃ i : Nat, ∃ x : List Rec, m = l.length - i ∧ i < l.length ∧ x.length = l.length ∧ srow sq r l.length i x = srow sq r l.length 0 y ∧ ds = [] ∧ σ 0 = .slice a_1 l.length c_2 ∧ σ 1 = .bool sq ∧ σ 5 = .int .i64 ((r : Nat) : Int) ∧ σ 11 = .int .i64 ((l.length : Nat) : Int) ∧ σ 12 = .int .i64 ((r : Nat) : Int) ∧ σ 20 = .int .i64 (((l.length : Nat) : Int) - 1) ∧ σ 21 = .int .i64 ((i : Nat) : Int) ∧ Ent L [osl a_1 c_2 l.length 4 23 (x.flatMap recV)]) (m0 := l.length - 0) ⟨0, y, rfl, by omega, by omega, rfl, rfl, h0_4, h1_4, rfl, h11_4, h12_4, rfl, rfl, .p .h .nil⟩ ?_
   rintro m ds σ L ⟨i, x, hm_7, hf0_7, hf1_7, hf2_7, rfl, h0_7, h1_7, h5_7, h11_7, h12_7, h20_7, h21_7, hE_7⟩
   refine wpS_ent hE_7 ?_; clear hE_7
   refine wpS_seq ?_
   refine wpS_region ?_
   refine s_y (v := .bool (decide ((((i : Nat) : Int) : Int) < (((l.length : Nat) : Int) - 1)))) (y_lss (a := ((i : Nat) : Int)) (b := ((l.length : Nat) : Int) - 1) h21_7 h20_7 rfl) rfl ?_
   refine wpL_nil ?_
   refine thenS_n ?_
   refine wpS_seq ?_
   refine wpS_cond (t := decide ((((i : Nat) : Int) : Int) < (((l.length : Nat) : Int) - 1))) rfl (fun b8 => ?_) (fun b8 => ?_)
   ·
    have p8 := of_decide_eq_true b8
    refine wpS_skip ?_
    refine thenS_n ?_
    refine wpS_seq ?_
    refine wpS_block ?_
    refine wpS_seq ?_
    refine wpS_region ?_
    refine s_y (v := .int .i64 ((i : Nat) : Int)) (y_move h21_7) rfl ?_
    refine s_y (v := .int .i64 ((i : Nat) : Int)) (y_assign rfl) rfl ?_
    refine wpL_nil ?_
    refine thenS_n ?_
    refine wpS_seq ?_
    refine wpS_seq ?_
    refine wpS_region ?_
    refine s_y (v := .int .i64 ((i : Nat) : Int)) (y_move rfl) rfl ?_
    refine s_y (v := .int .i64 (((i % 2) : Nat) : Int)) (y_rem (a := ((i : Nat) : Int)) (b := 2) rfl rfl (by omega) (n_rem _ 2 (by omega))) rfl ?_
    refine s_y (v := .int .i64 ((r : Nat) : Int)) (y_move h5_7) rfl ?_
    refine s_y (v := .int .i64 (((r % 2) : Nat) : Int)) (y_rem (a := ((r : Nat) : Int)) (b := 2) rfl rfl (by omega) (n_rem _ 2 (by omega))) rfl ?_
    refine s_y (v := .bool (decide ((i % 2) ≠ (r % 2)))) (y_neq (a := (((i % 2) : Nat) : Int)) (b := (((r % 2) : Nat) : Int)) (c := decide ((i % 2) ≠ (r % 2))) rfl rfl (by simp only [decide_eq_decide]; omega)) rfl ?_
    refine wpL_nil ?_
    refine thenS_n ?_
    refine wpS_cond (t := decide ((i % 2) ≠ (r % 2))) rfl (fun b9 => ?_) (fun b9 => ?_)
    ·
     have p9 := of_decide_eq_true b9
     refine wpS_exit ?_
     refine thenS_x ?_
     refine blockS_h ?_
     refine thenS_n ?_
     refine wpS_region ?_
     refine s_y (v := .int .i64 (((i + 1) : Nat) : Int)) (y_add (a := ((i : Nat) : Int)) (b := 1) h21_7 rfl (wI (by omega) (by omega) (by omega))) rfl ?_
     refine s_y (v := .int .i64 (((i + 1) : Nat) : Int)) (y_move rfl) rfl ?_
     refine wpL_nil ?_
     refine thenS_n ?_
     exact ⟨_, by omega, ⟨(i + 1), x, rfl, by omega, (by (try simp only [List.length_set]); omega), (by rw [← (by assumption : srow sq r l.length i x = srow sq r l.length 0 y), srow_next (i := i) (by omega)]; first | rw [if_neg (by omega)] | rw [if_pos (by omega), swp_eq1] | rw [if_pos (by omega), swp_eq2]), rfl, h0_7, h1_7, h5_7, h11_7, h12_7, h20_7, rfl, .p .h .nil⟩⟩
    ·
     have p9 := of_decide_eq_false b9
     refine wpS_skip ?_
     refine thenS_n ?_
     refine wpS_seq ?_
     refine wpS_lex (by kernel_rfl) (by kernel_rfl) ?_
     refine x_y (v := .slice a_1 l.length c_2) (y_move h0_7) rfl ?_
     refine x_y (v := .int .i64 ((i : Nat) : Int)) (y_move rfl) rfl ?_
     refine x_y (v := .pointer (some ⟨aB a_1, aO a_1 + i * 4, none⟩)) (y_idx (o := i * 4) rfl rfl Try.underlying69 Try.sizeOf23 (oslR .h) (by rw [fl_len recV_len]; (try simp only [List.length_set]); omega) (by decide) (by omega) (by omega) (by omega)) rfl ?_
     refine x_y (v := .agg #[.bool ((x.getD i default).dead), .int .i64 (((x.getD i default).key).toInt), .int .i64 (((x.getD i default).value).toInt), .int .i64 (((x.getD i default).seq).toInt)]) (y_loadN (vs := recV (x.getD i default)) rfl Try.isAgg23 Try.sizeOf23 (rdN (oslR .h) (fl_getN recV_len _ i (by omega)))) rfl ?_
     refine x_y (v := .slice a_1 l.length c_2) (y_move h0_7) rfl ?_
     refine x_y (v := .int .i64 ((i : Nat) : Int)) (y_move rfl) rfl ?_
     refine x_y (v := .int .i64 (((i + 1) : Nat) : Int)) (y_add (a := ((i : Nat) : Int)) (b := 1) rfl rfl (wI (by omega) (by omega) (by omega))) rfl ?_
     refine x_y (v := .pointer (some ⟨aB a_1, aO a_1 + (i + 1) * 4, none⟩)) (y_idx (o := (i + 1) * 4) rfl rfl Try.underlying69 Try.sizeOf23 (oslR .h) (by rw [fl_len recV_len]; (try simp only [List.length_set]); omega) (by decide) (by omega) (by omega) (by omega)) rfl ?_
     refine x_y (v := .agg #[.bool ((x.getD (i + 1) default).dead), .int .i64 (((x.getD (i + 1) default).key).toInt), .int .i64 (((x.getD (i + 1) default).value).toInt), .int .i64 (((x.getD (i + 1) default).seq).toInt)]) (y_loadN (vs := recV (x.getD (i + 1) default)) rfl Try.isAgg23 Try.sizeOf23 (rdN (oslR .h) (fl_getN recV_len _ (i + 1) (by omega)))) rfl ?_
     refine x_y (v := .bool sq) (y_move h1_7) rfl ?_
     refine x_y (v := .int .u64 ((b64 (ahd sq (x.getD (i + 1) default) (x.getD i default))).toNat)) (y_call (args := #[.agg #[.bool ((x.getD i default).dead), .int .i64 (((x.getD i default).key).toInt), .int .i64 (((x.getD i default).value).toInt), .int .i64 (((x.getD i default).seq).toInt)], .agg #[.bool ((x.getD (i + 1) default).dead), .int .i64 (((x.getD (i + 1) default).key).toInt), .int .i64 (((x.getD (i + 1) default).value).toInt), .int .i64 (((x.getD (i + 1) default).seq).toInt)], .bool sq]) Try.call169 (ev3 rfl rfl rfl) (fun w hs => stands_c (x.getD i default) (x.getD (i + 1) default) sq w)) rfl ?_
     refine x_y (v := .int .u64 ((b64 (ahd sq (x.getD (i + 1) default) (x.getD i default))).toNat)) (y_assign rfl) rfl ?_
     refine x_nil ?_
     refine thenS_n ?_
     refine wpS_any [2, 3, 4, 28, 29, 30] (by kernel_rfl) ?_
     refine anyS_takeF (i := 2) rfl (by kernel_rfl) (by kernel_rfl) (by kernel_rfl) (by kernel_rfl) (Yq.of (v := .slice a_1 l.length c_2) (y_move h0_7) rfl) ?_
     refine anyS_takeF (i := 3) rfl (by kernel_rfl) (by kernel_rfl) (by kernel_rfl) (by kernel_rfl) (Yq.of (v := .int .i64 ((i : Nat) : Int)) (y_move rfl) rfl) ?_
     refine anyS_takeF (i := 4) rfl (by kernel_rfl) (by kernel_rfl) (by kernel_rfl) (by kernel_rfl) (Yq.of (v := .int .i64 (((i + 1) : Nat) : Int)) (y_add (a := ((i : Nat) : Int)) (b := 1) (c := (((i + 1) : Nat) : Int)) rfl rfl (wI (by omega) (by omega) (by omega))) rfl) ?_
     refine anyS_take (i := 0) rfl (by kernel_rfl) (by kernel_rfl) (by kernel_rfl) (by kernel_rfl) (Yq.of (v := .slice a_1 l.length c_2) (y_move h0_7) rfl) (.p .h .nil) ?_
     refine anyS_take (i := 1) rfl (by kernel_rfl) (by kernel_rfl) (by kernel_rfl) (by kernel_rfl) (Yq.of (v := .int .i64 ((i : Nat) : Int)) (y_move rfl) rfl) (.p .h .nil) ?_
     refine anyS_take (i := 5) rfl (by kernel_rfl) (by kernel_rfl) (by kernel_rfl) (by kernel_rfl) (Yq.of (v := .int .u64 ((b64 (ahd sq (x.getD (i + 1) default) (x.getD i default))).toNat)) (y_move rfl) rfl) (.p .h .nil) ?_
     refine anyS_take (i := 6) rfl (by kernel_rfl) (by kernel_rfl) (by kernel_rfl) (by kernel_rfl) (Yq.of (v := .slice a_1 l.length c_2) (y_move h0_7) rfl) (.p .h .nil) ?_
     refine anyS_take (i := 7) rfl (by kernel_rfl) (by kernel_rfl) (by kernel_rfl) (by kernel_rfl) (Yq.of (v := .int .i64 ((i : Nat) : Int)) (y_move rfl) rfl) (.p .h .nil) ?_
     refine anyS_take (i := 8) rfl (by kernel_rfl) (by kernel_rfl) (by kernel_rfl) (by kernel_rfl) (Yq.of (v := .int .i64 (((i + 1) : Nat) : Int)) (y_add (a := ((i : Nat) : Int)) (b := 1) rfl rfl (wI (by omega) (by omega) (by omega))) rfl) (.p .h .nil) ?_
     refine anyS_take (i := 9) rfl (by kernel_rfl) (by kernel_rfl) (by kernel_rfl) (by kernel_rfl) (Yq.of (v := .pointer (some ⟨aB a_1, aO a_1 + (i + 1) * 4, none⟩)) (y_idx (o := (i + 1) * 4) rfl rfl Try.underlying69 Try.sizeOf23 (oslR .h) (by rw [fl_len recV_len]; (try simp only [List.length_set]); omega) (by decide) (by omega) (by omega) (by omega)) rfl) (.p .h .nil) ?_
     refine anyS_take (i := 10) rfl (by kernel_rfl) (by kernel_rfl) (by kernel_rfl) (by kernel_rfl) (Yq.of (v := .agg #[.bool ((x.getD (i + 1) default).dead), .int .i64 (((x.getD (i + 1) default).key).toInt), .int .i64 (((x.getD (i + 1) default).value).toInt), .int .i64 (((x.getD (i + 1) default).seq).toInt)]) (y_loadN (vs := recV (x.getD (i + 1) default)) rfl Try.isAgg23 Try.sizeOf23 (rdN (oslR .h) (fl_getN recV_len _ (i + 1) (by omega)))) rfl) (.p .h .nil) ?_
     refine anyS_take (i := 11) rfl (by kernel_rfl) (by kernel_rfl) (by kernel_rfl) (by kernel_rfl) (Yq.of (v := .slice a_1 l.length c_2) (y_move h0_7) rfl) (.p .h .nil) ?_
     refine anyS_take (i := 12) rfl (by kernel_rfl) (by kernel_rfl) (by kernel_rfl) (by kernel_rfl) (Yq.of (v := .int .i64 ((i : Nat) : Int)) (y_move rfl) rfl) (.p .h .nil) ?_
     refine anyS_take (i := 13) rfl (by kernel_rfl) (by kernel_rfl) (by kernel_rfl) (by kernel_rfl) (Yq.of (v := .pointer (some ⟨aB a_1, aO a_1 + i * 4, none⟩)) (y_idx (o := i * 4) rfl rfl Try.underlying69 Try.sizeOf23 (oslR .h) (by rw [fl_len recV_len]; (try simp only [List.length_set]); omega) (by decide) (by omega) (by omega) (by omega)) rfl) (.p .h .nil) ?_
     refine anyS_take (i := 14) rfl (by kernel_rfl) (by kernel_rfl) (by kernel_rfl) (by kernel_rfl) (Yq.of (v := .agg #[.bool ((x.getD i default).dead), .int .i64 (((x.getD i default).key).toInt), .int .i64 (((x.getD i default).value).toInt), .int .i64 (((x.getD i default).seq).toInt)]) (y_loadN (vs := recV (x.getD i default)) rfl Try.isAgg23 Try.sizeOf23 (rdN (oslR .h) (fl_getN recV_len _ i (by omega)))) rfl) (.p .h .nil) ?_
     refine anyS_take (i := 15) rfl (by kernel_rfl) (by kernel_rfl) (by kernel_rfl) (by kernel_rfl) (Yq.of (v := .agg #[.bool ((pickR (b64 (ahd sq (x.getD (i + 1) default) (x.getD i default))) (x.getD (i + 1) default) (x.getD i default)).dead), .int .i64 (((pickR (b64 (ahd sq (x.getD (i + 1) default) (x.getD i default))) (x.getD (i + 1) default) (x.getD i default)).key).toInt), .int .i64 (((pickR (b64 (ahd sq (x.getD (i + 1) default) (x.getD i default))) (x.getD (i + 1) default) (x.getD i default)).value).toInt), .int .i64 (((pickR (b64 (ahd sq (x.getD (i + 1) default) (x.getD i default))) (x.getD (i + 1) default) (x.getD i default)).seq).toInt)]) (y_call (args := #[.int .u64 ((b64 (ahd sq (x.getD (i + 1) default) (x.getD i default))).toNat), .agg #[.bool ((x.getD (i + 1) default).dead), .int .i64 (((x.getD (i + 1) default).key).toInt), .int .i64 (((x.getD (i + 1) default).value).toInt), .int .i64 (((x.getD (i + 1) default).seq).toInt)], .agg #[.bool ((x.getD i default).dead), .int .i64 (((x.getD i default).key).toInt), .int .i64 (((x.getD i default).value).toInt), .int .i64 (((x.getD i default).seq).toInt)]]) Try.call47 (ev3 rfl rfl rfl) (fun w hs => pick_c (b64 (ahd sq (x.getD (i + 1) default) (x.getD i default))) (x.getD (i + 1) default) (x.getD i default) w)) rfl) (.p .h .nil) ?_
     refine anyS_take (i := 16) rfl (by kernel_rfl) (by kernel_rfl) (by kernel_rfl) (by kernel_rfl) (Yq.of (v := .int .u64 ((b64 (ahd sq (x.getD (i + 1) default) (x.getD i default))).toNat)) (y_move rfl) rfl) (.p .h .nil) ?_
     refine anyS_take (i := 17) rfl (by kernel_rfl) (by kernel_rfl) (by kernel_rfl) (by kernel_rfl) (Yq.of (v := .slice a_1 l.length c_2) (y_move h0_7) rfl) (.p .h .nil) ?_
     refine anyS_take (i := 18) rfl (by kernel_rfl) (by kernel_rfl) (by kernel_rfl) (by kernel_rfl) (Yq.of (v := .int .i64 ((i : Nat) : Int)) (y_move rfl) rfl) (.p .h .nil) ?_
     refine anyS_take (i := 19) rfl (by kernel_rfl) (by kernel_rfl) (by kernel_rfl) (by kernel_rfl) (Yq.of (v := .pointer (some ⟨aB a_1, aO a_1 + i * 4, none⟩)) (y_idx (o := i * 4) rfl rfl Try.underlying69 Try.sizeOf23 (oslR .h) (by rw [fl_len recV_len]; (try simp only [List.length_set]); omega) (by decide) (by omega) (by omega) (by omega)) rfl) (.p .h .nil) ?_
     refine anyS_take (i := 20) rfl (by kernel_rfl) (by kernel_rfl) (by kernel_rfl) (by kernel_rfl) (Yq.of (v := .agg #[.bool ((x.getD i default).dead), .int .i64 (((x.getD i default).key).toInt), .int .i64 (((x.getD i default).value).toInt), .int .i64 (((x.getD i default).seq).toInt)]) (y_loadN (vs := recV (x.getD i default)) rfl Try.isAgg23 Try.sizeOf23 (rdN (oslR .h) (fl_getN recV_len _ i (by omega)))) rfl) (.p .h .nil) ?_
     refine anyS_take (i := 21) rfl (by kernel_rfl) (by kernel_rfl) (by kernel_rfl) (by kernel_rfl) (Yq.of (v := .slice a_1 l.length c_2) (y_move h0_7) rfl) (.p .h .nil) ?_
     refine anyS_all (rs := [22]) (by kernel_rfl) (by simp) ?_
     intro i hi; obtain rfl := List.mem_singleton.1 hi; clear hi
     refine opS_0 rfl rfl ?_
     refine OpY.E (v := .int .i64 ((i : Nat) : Int)) (OpR.y (y_move rfl) _ _ _ _ _) ?_
     refine ⟨.inr (.p .h .nil), ?_⟩
     refine anyS_take (i := 23) rfl (by kernel_rfl) (by kernel_rfl) (by kernel_rfl) (by kernel_rfl) (Yq.of (v := .int .i64 (((i + 1) : Nat) : Int)) (y_add (a := ((i : Nat) : Int)) (b := 1) rfl rfl (wI (by omega) (by omega) (by omega))) rfl) (.p .h .nil) ?_
     refine anyS_take (i := 24) rfl (by kernel_rfl) (by kernel_rfl) (by kernel_rfl) (by kernel_rfl) (Yq.of (v := .pointer (some ⟨aB a_1, aO a_1 + (i + 1) * 4, none⟩)) (y_idx (o := (i + 1) * 4) rfl rfl Try.underlying69 Try.sizeOf23 (oslR .h) (by rw [fl_len recV_len]; (try simp only [List.length_set]); omega) (by decide) (by omega) (by omega) (by omega)) rfl) (.p .h .nil) ?_
     refine anyS_take (i := 25) rfl (by kernel_rfl) (by kernel_rfl) (by kernel_rfl) (by kernel_rfl) (Yq.of (v := .agg #[.bool ((x.getD (i + 1) default).dead), .int .i64 (((x.getD (i + 1) default).key).toInt), .int .i64 (((x.getD (i + 1) default).value).toInt), .int .i64 (((x.getD (i + 1) default).seq).toInt)]) (y_loadN (vs := recV (x.getD (i + 1) default)) rfl Try.isAgg23 Try.sizeOf23 (rdN (oslR .h) (fl_getN recV_len _ (i + 1) (by omega)))) rfl) (.p .h .nil) ?_
     refine anyS_take (i := 26) rfl (by kernel_rfl) (by kernel_rfl) (by kernel_rfl) (by kernel_rfl) (Yq.of (v := .agg #[.bool ((pickR (b64 (ahd sq (x.getD (i + 1) default) (x.getD i default))) (x.getD i default) (x.getD (i + 1) default)).dead), .int .i64 (((pickR (b64 (ahd sq (x.getD (i + 1) default) (x.getD i default))) (x.getD i default) (x.getD (i + 1) default)).key).toInt), .int .i64 (((pickR (b64 (ahd sq (x.getD (i + 1) default) (x.getD i default))) (x.getD i default) (x.getD (i + 1) default)).value).toInt), .int .i64 (((pickR (b64 (ahd sq (x.getD (i + 1) default) (x.getD i default))) (x.getD i default) (x.getD (i + 1) default)).seq).toInt)]) (y_call (args := #[.int .u64 ((b64 (ahd sq (x.getD (i + 1) default) (x.getD i default))).toNat), .agg #[.bool ((x.getD i default).dead), .int .i64 (((x.getD i default).key).toInt), .int .i64 (((x.getD i default).value).toInt), .int .i64 (((x.getD i default).seq).toInt)], .agg #[.bool ((x.getD (i + 1) default).dead), .int .i64 (((x.getD (i + 1) default).key).toInt), .int .i64 (((x.getD (i + 1) default).value).toInt), .int .i64 (((x.getD (i + 1) default).seq).toInt)]]) Try.call47 (ev3 rfl rfl rfl) (fun w hs => pick_c (b64 (ahd sq (x.getD (i + 1) default) (x.getD i default))) (x.getD i default) (x.getD (i + 1) default) w)) rfl) (.p .h .nil) ?_
     refine anyS_take (i := 27) rfl (by kernel_rfl) (by kernel_rfl) (by kernel_rfl) (by kernel_rfl) (Yq.of (v := .pointer (some ⟨aB a_1, aO a_1 + i * 4, none⟩)) (y_idx (o := i * 4) rfl rfl Try.underlying69 Try.sizeOf23 (oslR .h) (by rw [fl_len recV_len]; (try simp only [List.length_set]); omega) (by decide) (by omega) (by omega) (by omega)) rfl) (.p .h .nil) ?_
     refine anyS_all (rs := [28]) (by kernel_rfl) (by simp) ?_
     intro i hi; obtain rfl := List.mem_singleton.1 hi; clear hi
     refine opS_0 rfl rfl ?_
     refine e_storeL (enc := recV) (xs := x) (y := (pickR (b64 (ahd sq (x.getD (i + 1) default) (x.getD i default))) (x.getD (i + 1) default) (x.getD i default))) recV_len recV_one (by decide) rfl rfl rfl Try.sizeOf23 .h (by (try simp only [List.length_set]); omega) ?_
     refine ⟨.inl (by simp), ?_⟩
     refine anyS_all (rs := [29]) (by kernel_rfl) (by simp) ?_
     intro i hi; obtain rfl := List.mem_singleton.1 hi; clear hi
     refine opS_0 rfl rfl ?_
     refine OpY.E (v := .pointer (some ⟨aB a_1, aO a_1 + (i + 1) * 4, none⟩)) (OpR.y (y_idx (o := (i + 1) * 4) rfl rfl Try.underlying69 Try.sizeOf23 (oslR .h) (by rw [fl_len recV_len]; (try simp only [List.length_set]); omega) (by decide) (by omega) (by omega) (by omega)) _ _ _ _ _) ?_
     refine ⟨.inl (by simp), ?_⟩
     refine anyS_all (rs := [30]) (by kernel_rfl) (by simp) ?_
     intro i hi; obtain rfl := List.mem_singleton.1 hi; clear hi
     refine opS_0 rfl rfl ?_
     refine e_storeL (enc := recV) (xs := (x.set i (pickR (b64 (ahd sq (x.getD (i + 1) default) (x.getD i default))) (x.getD (i + 1) default) (x.getD i default)))) (y := (pickR (b64 (ahd sq (x.getD (i + 1) default) (x.getD i default))) (x.getD i default) (x.getD (i + 1) default))) recV_len recV_one (by decide) rfl rfl rfl Try.sizeOf23 .h (by (try simp only [List.length_set]); omega) ?_
     refine ⟨.inl (by simp), ?_⟩
     refine anyS_done (by kernel_rfl) ?_
     refine blockS_n ?_
     refine thenS_n ?_
     refine wpS_region ?_
     refine s_y (v := .int .i64 (((i + 1) : Nat) : Int)) (y_add (a := ((i : Nat) : Int)) (b := 1) h21_7 rfl (wI (by omega) (by omega) (by omega))) rfl ?_
     refine s_y (v := .int .i64 (((i + 1) : Nat) : Int)) (y_move rfl) rfl ?_
     refine wpL_nil ?_
     refine thenS_n ?_
     exact ⟨_, by omega, ⟨(i + 1), ((x.set i (pickR (b64 (ahd sq (x.getD (i + 1) default) (x.getD i default))) (x.getD (i + 1) default) (x.getD i default))).set (i + 1) (pickR (b64 (ahd sq (x.getD (i + 1) default) (x.getD i default))) (x.getD i default) (x.getD (i + 1) default))), rfl, by omega, (by (try simp only [List.length_set]); omega), (by rw [← (by assumption : srow sq r l.length i x = srow sq r l.length 0 y), srow_next (i := i) (by omega)]; first | rw [if_neg (by omega)] | rw [if_pos (by omega), swp_eq1] | rw [if_pos (by omega), swp_eq2]), rfl, h0_7, h1_7, h5_7, h11_7, h12_7, h20_7, rfl, .p .h .nil⟩⟩
   ·
    have p8 := of_decide_eq_false b8
    refine wpS_exit ?_
    refine thenS_x ?_
    refine thenS_x ?_
    refine blockS_h ?_
    refine scopeS_n ?_
    refine blockS_n ?_
    refine thenS_n ?_
    refine wpS_region ?_
    refine s_y (v := .int .i64 (((r + 1) : Nat) : Int)) (y_add (a := ((r : Nat) : Int)) (b := 1) h12_7 rfl (wI (by omega) (by omega) (by omega))) rfl ?_
    refine s_y (v := .int .i64 (((r + 1) : Nat) : Int)) (y_move rfl) rfl ?_
    refine wpL_nil ?_
    refine thenS_n ?_
    exact ⟨_, by omega, ⟨(r + 1), x, rfl, by omega, by omega, (by rw [← (by assumption : srows sq l.length r y = srows sq l.length 0 l), srows_next (r := r) (by omega), ← (by assumption : srow sq r l.length i x = srow sq r l.length 0 y), srow_end (by omega)]), rfl, h0_7, h1_7, h11_7, rfl, .p .h .nil⟩⟩
 ·
  have p5 := of_decide_eq_false b5
  refine wpS_exit ?_
  refine thenS_x ?_
  refine thenS_x ?_
  refine blockS_h ?_
  refine thenS_n ?_
  refine wpS_seq ?_
  refine wpS_region ?_
  refine s_y (v := .slice a_1 l.length c_2) (y_move h0_4) rfl ?_
  refine s_y (v := .slice a_1 l.length c_2) (y_assign rfl) rfl ?_
  refine wpL_nil ?_
  refine thenS_n ?_
  refine wpS_ret ?_
  refine scopeS_r ?_
  refine fin1 (M := [osl a_1 c_2 l.length 4 23 (y.flatMap recV)]) (v := .slice a_1 l.length c_2) (.inr rfl) (.p .h .nil) Try.results74 rfl ?_
  exact fun w' hs => ⟨(a_1, c_2), by rw [show (msort sq l) = y from (by unfold msort; rw [← (by assumption : srows sq l.length r y = srows sq l.length 0 l), srows_done (by omega)])]; simp only [slV, show y.length = l.length from by omega], by rw [show (msort sq l) = y from (by unfold msort; rw [← (by assumption : srows sq l.length r y = srows sq l.length 0 l), srows_done (by omega)])]; simp only [slR, show y.length = l.length from by omega]; exact hs, trivial⟩
theorem grow_c (m : Nat) (w : World) (hm : m ≤ 1000000) : MakesS Try.prog 224 #[.slice none 0 0, .int .i64 ((m : Nat) : Int)] w [] recV 4 23 ([] : List Rec) := by
 refine calls_S (n := 27) (σ0 := (upd (upd fr0 0 (.slice none 0 0)) 1 (.int .i64 ((m : Nat) : Int)))) (D := []) (A := []) Try.func224 rfl Try.ntmps224 rfl (a2_fr _ _) (SH.start w) ?_
 refine wpS_seq ?_
 refine wpS_region ?_
 refine s_y (v := .slice none 0 0) (y_assign rfl) rfl ?_
 refine wpL_nil ?_
 refine thenS_n ?_
 refine wpS_seq ?_
 refine wpS_seq ?_
 refine wpS_region ?_
 refine s_y (v := .int .i64 ((m : Nat) : Int)) (y_move rfl) rfl ?_
 refine s_y (v := .bool (decide ((m : Nat) < 0))) (y_lss (a := ((m : Nat) : Int)) (b := 0) (c := decide ((m : Nat) < 0)) rfl rfl (by simp only [decide_eq_decide]; omega)) rfl ?_
 refine wpL_nil ?_
 refine thenS_n ?_
 refine wpS_cond_F (t := decide ((m : Nat) < 0)) rfl (by simp) ?_
 refine wpS_skip ?_
 refine thenS_n ?_
 refine wpS_seq ?_
 refine wpS_seq ?_
 refine wpS_region ?_
 refine s_y (v := .int .i64 ((m : Nat) : Int)) (y_move rfl) rfl ?_
 refine s_y (v := .slice none 0 0) (y_move rfl) rfl ?_
 refine s_y (v := .int .i64 0) (y_cap rfl Try.underlying69) rfl ?_
 refine s_y (v := .slice none 0 0) (y_move rfl) rfl ?_
 refine s_y (v := .int .i64 0) (y_len (ty' := 0) (at_ := #[]) rfl Try.underlying69) rfl ?_
 refine s_y (v := .int .i64 0) (y_sub (a := 0) (b := 0) rfl rfl (by decide)) rfl ?_
 refine s_y (v := .int .i64 ((m : Nat) : Int)) (y_sub (a := ((m : Nat) : Int)) (b := 0) rfl rfl (wI (by omega) (by omega) (by omega))) rfl ?_
 refine s_y (v := .int .i64 ((m : Nat) : Int)) (y_assign rfl) rfl ?_
 refine wpL_nil ?_
 refine thenS_n ?_
 refine wpS_seq ?_
 refine wpS_region ?_
 refine s_y (v := .int .i64 ((m : Nat) : Int)) (y_move rfl) rfl ?_
 refine s_y (v := .bool (decide ((0 : Nat) < m))) (y_gtr (a := ((m : Nat) : Int)) (b := 0) (c := decide ((0 : Nat) < m)) rfl rfl (by simp only [decide_eq_decide]; omega)) rfl ?_
 refine wpL_nil ?_
 refine thenS_n ?_
 refine wpS_cond (t := decide ((0 : Nat) < m)) rfl (fun b1 => ?_) (fun b1 => ?_)
 ·
  have p1 := of_decide_eq_true b1
  refine wpS_region ?_
  refine s_y (v := .slice none 0 0) (y_move rfl) rfl ?_
  refine s_y (v := .slice none 0 0) (y_move rfl) rfl ?_
  refine s_y (v := .int .i64 0) (y_cap rfl Try.underlying69) rfl ?_
  refine s_y (v := .slice none 0 0) (y_sliceH (h' := 0) rfl rfl Try.underlying69 Try.sizeOf23 (by decide) (by decide) (by decide)) rfl ?_
  refine s_y (v := .int .i64 ((m : Nat) : Int)) (y_move rfl) rfl ?_
  refine s_e rfl ?_
  refine e_appendZ0 (bytes := 32) Try.underlying69 Try.underlying3 (i := Try.t23) rfl rfl rfl rfl rfl (by decide) (by decide) rfl rfl (by omega) (by omega) ?_
  intro b_2 c_3
  refine wpL_ent (SH.cut0 .h (by simp)) ?_
  refine s_y (v := .slice none 0 0) (y_move rfl) rfl ?_
  refine s_y (v := .int .i64 0) (y_len (ty' := 0) (at_ := #[]) rfl Try.underlying69) rfl ?_
  refine s_y (v := .slice (some ⟨b_2, 0, none⟩) 0 c_3) (y_sliceH (h' := 0) rfl rfl Try.underlying69 Try.sizeOf23 (by decide) (by omega) (by decide)) rfl ?_
  refine s_y (v := .slice (some ⟨b_2, 0, none⟩) 0 c_3) (y_assign rfl) rfl ?_
  refine wpL_nil ?_
  refine thenS_n ?_
  refine wpS_seq ?_
  refine wpS_region ?_
  refine s_y (v := .slice (some ⟨b_2, 0, none⟩) 0 c_3) (y_move rfl) rfl ?_
  refine s_y (v := .slice (some ⟨b_2, 0, none⟩) 0 c_3) (y_assign rfl) rfl ?_
  refine wpL_nil ?_
  refine thenS_n ?_
  refine wpS_ret ?_
  refine fin1 (M := [osl (some ⟨b_2, 0, none⟩) c_3 0 4 23 ([])]) (v := .slice (some ⟨b_2, 0, none⟩) 0 c_3) (.inr rfl) (.p .h .nil) Try.results224 rfl ?_
  exact fun w' hs => ⟨(some ⟨b_2, 0, none⟩, c_3), rfl, hs, trivial⟩
 ·
  have p1 := of_decide_eq_false b1
  refine wpS_skip ?_
  refine thenS_n ?_
  refine wpS_seq ?_
  refine wpS_region ?_
  refine s_y (v := .slice none 0 0) (y_move rfl) rfl ?_
  refine s_y (v := .slice none 0 0) (y_assign rfl) rfl ?_
  refine wpL_nil ?_
  refine thenS_n ?_
  refine wpS_ret ?_
  refine finNil (.inr rfl) .nil Try.results224 rfl (sz := 4) (ty := 23) ?_
  exact fun w' hs => ⟨(none, 0), by rw [show [] = [] from rfl]; rfl, by rw [show [] = [] from rfl]; exact hs, trivial⟩
theorem concat_c (sa : Option Addr) (q cs : Nat) (hs : List SlH) (ls : List (List Rec)) (w : World) (hm : hs.length = q) (hl : ls.length = q) (hrs : Rds w sa (hs.flatMap slhV)) (hall : ∀ k, k < q → (ls.getD k []).length = (hs.getD k default).n ∧ Rds w (hs.getD k default).a ((ls.getD k []).flatMap recV)) (hb : ls.flatten.length ≤ 1000000) (hbm : q ≤ 1000000) : MakesS Try.prog 167 #[.slice sa q cs] w [] recV 4 23 ls.flatten := by
 refine calls_S (n := 36) (σ0 := (upd fr0 0 (.slice sa q cs))) (D := []) (A := []) Try.func167 rfl Try.ntmps167 rfl (a1_fr _) (SH.start w) ?_
 refine wpS_seq ?_
 refine wpS_region ?_
 refine s_y (v := .slice none 0 0) (y_assign rfl) rfl ?_
 refine wpL_nil ?_
 refine thenS_n ?_
 refine wpS_seq ?_
 refine wpS_region ?_
 refine s_y (v := .int .i64 0) (y_assign rfl) rfl ?_
 refine wpL_nil ?_
 refine thenS_n ?_
 refine wpS_seq ?_
 refine wpS_seq ?_
 refine wpS_region ?_
 refine s_y (v := .slice sa q cs) (y_move rfl) rfl ?_
 refine s_y (v := .int .i64 ((q : Nat) : Int)) (y_len (ty' := 0) (at_ := #[]) rfl Try.underlying80) rfl ?_
 refine s_y (v := .int .i64 0) (y_move rfl) rfl ?_
 refine wpL_nil ?_
 refine thenS_n ?_
 refine wpS_block ?_
 refine wpS_loop (fun m ds σ L => ∃ k : Nat, m = q - k ∧ k ≤ q ∧ (ls.take k).flatten.length ≤ 1000000 ∧ ds = [] ∧ σ 0 = .slice sa q cs ∧ σ 3 = .int .i64 ((((ls.take k).flatten.length) : Nat) : Int) ∧ σ 9 = .slice sa q cs ∧ σ 10 = .int .i64 ((q : Nat) : Int) ∧ σ 11 = .int .i64 ((k : Nat) : Int) ∧ Ent L []) (m0 := q - 0) ⟨0, rfl, by omega, (by simp), rfl, rfl, (congrArg (Value.int .i64) (by first | omega | (simp; done))), rfl, rfl, rfl, .nil⟩ ?_
 rintro m ds σ L ⟨k, hm_1, hf0_1, hf1_1, rfl, h0_1, h3_1, h9_1, h10_1, h11_1, hE_1⟩
 refine wpS_ent hE_1 ?_; clear hE_1
 refine wpS_seq ?_
 refine wpS_region ?_
 refine s_y (v := .bool (decide (k < q))) (y_lss (a := ((k : Nat) : Int)) (b := ((q : Nat) : Int)) (c := decide (k < q)) h11_1 h10_1 (by simp only [decide_eq_decide]; omega)) rfl ?_
 refine wpL_nil ?_
 refine thenS_n ?_
 refine wpS_seq ?_
 refine wpS_cond (t := decide (k < q)) rfl (fun b2 => ?_) (fun b2 => ?_)
 ·
  have p2 := of_decide_eq_true b2
  refine wpS_skip ?_
  refine thenS_n ?_
  refine wpS_seq ?_
  refine wpS_block ?_
  refine wpS_seq ?_
  refine wpS_region ?_
  refine s_y (v := .pointer (some ⟨aB sa, aO sa + k * 1, none⟩)) (y_idx (o := k * 1) h9_1 h11_1 Try.underlying80 Try.sizeOf69 (oldR hrs) (by rw [fl_len slhV_len]; (try simp only [List.length_set]); omega) (by decide) (by omega) (by omega) (by omega)) rfl ?_
  refine s_y (v := .slice ((hs.getD k default).a) ((hs.getD k default).n) ((hs.getD k default).c)) (y_load1 rfl Try.isAgg69 (rd1 (oldR hrs) (fl_get0 slhV_len hs k (by omega) rfl))) rfl ?_
  have hnk := (hall k (by omega)).1
  have hk1 : (ls.take k).flatten.length + (ls.getD k []).length = (ls.take (k + 1)).flatten.length := by rw [← flat_succ ls k (by omega), List.length_append]
  have hk2 := flat_le ls (k + 1)
  refine s_y (v := .slice ((hs.getD k default).a) ((hs.getD k default).n) ((hs.getD k default).c)) (y_assign rfl) rfl ?_
  refine wpL_nil ?_
  refine thenS_n ?_
  refine wpS_seq ?_
  refine wpS_region ?_
  refine s_y (v := .int .i64 ((((ls.take k).flatten.length) : Nat) : Int)) (y_move h3_1) rfl ?_
  refine s_y (v := .slice ((hs.getD k default).a) ((hs.getD k default).n) ((hs.getD k default).c)) (y_move rfl) rfl ?_
  refine s_y (v := .int .i64 (((hs.getD k default).n : Nat) : Int)) (y_len (ty' := 0) (at_ := #[]) rfl Try.underlying69) rfl ?_
  refine s_y (v := .int .i64 (((((ls.take k).flatten.length) + (hs.getD k default).n) : Nat) : Int)) (y_add (a := ((((ls.take k).flatten.length) : Nat) : Int)) (b := (((hs.getD k default).n : Nat) : Int)) rfl rfl (wI (by omega) (by omega) (by omega))) rfl ?_
  refine s_y (v := .int .i64 (((((ls.take k).flatten.length) + (hs.getD k default).n) : Nat) : Int)) (y_assign rfl) rfl ?_
  refine wpL_nil ?_
  refine thenS_n ?_
  refine wpS_seq ?_
  refine wpS_region ?_
  refine s_y (v := .int .i64 (((((ls.take k).flatten.length) + (hs.getD k default).n) : Nat) : Int)) (y_move rfl) rfl ?_
  refine s_y (v := .bool (decide (((((ls.take k).flatten.length) + (hs.getD k default).n) : Nat) < 0))) (y_lss (a := (((((ls.take k).flatten.length) + (hs.getD k default).n) : Nat) : Int)) (b := 0) (c := decide (((((ls.take k).flatten.length) + (hs.getD k default).n) : Nat) < 0)) rfl rfl (by simp only [decide_eq_decide]; omega)) rfl ?_
  refine wpL_nil ?_
  refine thenS_n ?_
  refine wpS_cond_F (t := decide (((((ls.take k).flatten.length) + (hs.getD k default).n) : Nat) < 0)) rfl (by simp) ?_
  refine wpS_skip ?_
  refine blockS_n ?_
  refine thenS_n ?_
  refine wpS_region ?_
  refine s_y (v := .int .i64 (((k + 1) : Nat) : Int)) (y_add (a := ((k : Nat) : Int)) (b := 1) h11_1 rfl (wI (by omega) (by omega) (by omega))) rfl ?_
  refine s_y (v := .int .i64 (((k + 1) : Nat) : Int)) (y_move rfl) rfl ?_
  refine wpL_nil ?_
  refine thenS_n ?_
  exact ⟨_, by omega, ⟨(k + 1), rfl, by omega, by omega, rfl, h0_1, (congrArg (Value.int .i64) (by first | omega | (simp; done))), h9_1, h10_1, rfl, .nil⟩⟩
 ·
  have p2 := of_decide_eq_false b2
  refine wpS_exit ?_
  refine thenS_x ?_
  refine thenS_x ?_
  refine blockS_h ?_
  refine thenS_n ?_
  refine wpS_seq ?_
  refine wpS_region ?_
  refine s_y (v := .int .i64 ((((ls.take k).flatten.length) : Nat) : Int)) (y_move h3_1) rfl ?_
  refine s_e rfl ?_
  refine e_call (f := 224) (args := #[.slice none 0 0, .int .i64 ((((ls.take k).flatten.length) : Nat) : Int)]) (X := Option Addr × Nat) (A := []) (M := []) (V := slV ([])) (A' := fun x => [slR recV 4 23 ([]) x]) (C := fun x => ([]).length ≤ x.2) Try.call224 (ev2 rfl rfl) (.nil) (fun w hs => (grow_c ((ls.take k).flatten.length) w (by omega)).cap) ?_
  rintro ⟨a_3, c_4⟩ hc5; replace hc5 : ([]).length ≤ c_4 := hc5
  refine s_y (v := .slice a_3 (([]).length) c_4) (y_assign rfl) rfl ?_
  refine wpL_nil ?_
  refine thenS_n ?_
  refine wpS_seq ?_
  refine wpS_seq ?_
  refine wpS_region ?_
  refine s_y (v := .slice sa q cs) (y_move h0_1) rfl ?_
  refine s_y (v := .int .i64 ((q : Nat) : Int)) (y_len (ty' := 0) (at_ := #[]) rfl Try.underlying80) rfl ?_
  refine s_y (v := .int .i64 0) (y_move rfl) rfl ?_
  refine wpL_nil ?_
  refine thenS_n ?_
  refine wpS_block ?_
  refine wpS_loop (fun m ds σ L => ∃ j : Nat, ∃ a1 : Option Addr, ∃ c1 : Nat, m = q - j ∧ j ≤ q ∧ ds = [] ∧ σ 6 = .slice a1 ((ls.take j).flatten.length) c1 ∧ σ 25 = .slice sa q cs ∧ σ 26 = .int .i64 ((q : Nat) : Int) ∧ σ 27 = .int .i64 ((j : Nat) : Int) ∧ Ent L [osl a1 c1 (((ls.take j).flatten).length) 4 23 (((ls.take j).flatten).flatMap recV)]) (m0 := q - 0) ⟨0, a_3, c_4, rfl, by omega, rfl, rfl, rfl, rfl, rfl, .p .h .nil⟩ ?_
  rintro m ds σ L ⟨j, a1, c1, hm_6, hf0_6, rfl, h6_6, h25_6, h26_6, h27_6, hE_6⟩
  refine wpS_ent hE_6 ?_; clear hE_6
  refine wpS_seq ?_
  refine wpS_region ?_
  refine s_y (v := .bool (decide (j < q))) (y_lss (a := ((j : Nat) : Int)) (b := ((q : Nat) : Int)) (c := decide (j < q)) h27_6 h26_6 (by simp only [decide_eq_decide]; omega)) rfl ?_
  refine wpL_nil ?_
  refine thenS_n ?_
  refine wpS_seq ?_
  refine wpS_cond (t := decide (j < q)) rfl (fun b7 => ?_) (fun b7 => ?_)
  ·
   have p7 := of_decide_eq_true b7
   refine wpS_skip ?_
   refine thenS_n ?_
   refine wpS_seq ?_
   refine wpS_block ?_
   refine wpS_seq ?_
   refine wpS_region ?_
   refine s_y (v := .pointer (some ⟨aB sa, aO sa + j * 1, none⟩)) (y_idx (o := j * 1) h25_6 h27_6 Try.underlying80 Try.sizeOf69 (oldR hrs) (by rw [fl_len slhV_len]; (try simp only [List.length_set]); omega) (by decide) (by omega) (by omega) (by omega)) rfl ?_
   refine s_y (v := .slice ((hs.getD j default).a) ((hs.getD j default).n) ((hs.getD j default).c)) (y_load1 rfl Try.isAgg69 (rd1 (oldR hrs) (fl_get0 slhV_len hs j (by omega) rfl))) rfl ?_
   have hnk := (hall j (by omega)).1
   have hk1 : (ls.take j).flatten.length + (ls.getD j []).length = (ls.take (j + 1)).flatten.length := by rw [← flat_succ ls j (by omega), List.length_append]
   have hk2 := flat_le ls (j + 1)
   refine s_y (v := .slice ((hs.getD j default).a) ((hs.getD j default).n) ((hs.getD j default).c)) (y_assign rfl) rfl ?_
   refine wpL_nil ?_
   refine thenS_n ?_
   refine wpS_region ?_
   refine s_y (v := .slice a1 ((ls.take j).flatten.length) c1) (y_move h6_6) rfl ?_
   refine s_y (v := .slice ((hs.getD j default).a) ((hs.getD j default).n) ((hs.getD j default).c)) (y_move rfl) rfl ?_
   refine s_e rfl ?_
   refine e_appendL (enc := recV) (xs := ((ls.take j).flatten : List Rec)) (ns := (ls.getD j [] : List Rec)) (zs := (ls.take (j + 1)).flatten) (bytes := 32) recV_len recV_one Try.underlying69 (i := Try.t23) rfl rfl rfl rfl rfl (by decide) rfl rfl (by first | rfl | omega) (by omega) .h (oldR (hall j (by omega)).2) (flat_succ ls j (by omega)) (by omega) (by omega) ?_
   intro a_8 c_9
   refine s_y (v := .slice a_8 (((ls.take (j + 1)).flatten).length) c_9) (y_assign rfl) rfl ?_
   refine wpL_nil ?_
   refine blockS_n ?_
   refine thenS_n ?_
   refine wpS_region ?_
   refine s_y (v := .int .i64 (((j + 1) : Nat) : Int)) (y_add (a := ((j : Nat) : Int)) (b := 1) h27_6 rfl (wI (by omega) (by omega) (by omega))) rfl ?_
   refine s_y (v := .int .i64 (((j + 1) : Nat) : Int)) (y_move rfl) rfl ?_
   refine wpL_nil ?_
   refine thenS_n ?_
   exact ⟨_, by omega, ⟨(j + 1), a_8, c_9, rfl, by omega, rfl, rfl, h25_6, h26_6, rfl, .p .h .nil⟩⟩
  ·
   have p7 := of_decide_eq_false b7
   refine wpS_exit ?_
   refine thenS_x ?_
   refine thenS_x ?_
   refine blockS_h ?_
   refine thenS_n ?_
   refine wpS_seq ?_
   refine wpS_region ?_
   refine s_y (v := .slice a1 ((ls.take j).flatten.length) c1) (y_move h6_6) rfl ?_
   refine s_y (v := .slice a1 ((ls.take j).flatten.length) c1) (y_assign rfl) rfl ?_
   refine wpL_nil ?_
   refine thenS_n ?_
   refine wpS_ret ?_
   refine fin1 (M := [osl a1 c1 (((ls.take j).flatten).length) 4 23 (((ls.take j).flatten).flatMap recV)]) (v := .slice a1 ((ls.take j).flatten.length) c1) (.inr rfl) (.p .h .nil) Try.results167 rfl ?_
   exact fun w' hs => ⟨(a1, c1), by rw [show ls.flatten = (ls.take j).flatten from (by rw [List.take_of_length_le (by omega)])], by rw [show ls.flatten = (ls.take j).flatten from (by rw [List.take_of_length_le (by omega)])]; exact hs, trivial⟩
def mgd (sq : Bool) (la lb : List Rec) : List Rec := msort sq [la, lb].flatten
theorem srow_len {sq : Bool} {r n : Nat} : ∀ {i : Nat} {x : List Rec}, (srow sq r n i x).length = x.length := by
  intro i x
  induction i, x using srow.induct (sq := sq) (r := r) (n := n) with
  | case1 i x h ih => simp only [dite_eq_ite] at ih; rw [srow_next h, ih]; split <;> simp [swp_len]
  | case2 i x h => rw [srow_end h]
theorem srows_len {sq : Bool} {n : Nat} : ∀ {r : Nat} {x : List Rec}, (srows sq n r x).length = x.length := by
  intro r x
  induction r, x using srows.induct (sq := sq) (n := n) with
  | case1 r x h ih => rw [srows_next h, ih, srow_len]
  | case2 r x h => rw [srows_done (.inl h)]
theorem msort_len (sq : Bool) (l : List Rec) : (msort sq l).length = l.length := srows_len
theorem mgd_len (sq : Bool) (la lb : List Rec) : (mgd sq la lb).length = la.length + lb.length := by unfold mgd; rw [msort_len]; simp
theorem two_all {w : World} {la lb : List Rec} {h0 h1 : SlH} (x : la.length = h0.n ∧ Rds w h0.a (la.flatMap recV)) (y : lb.length = h1.n ∧ Rds w h1.a (lb.flatMap recV)) :
    ∀ k, k < 2 → (([la, lb] : List (List Rec)).getD k []).length = (([h0, h1] : List SlH).getD k default).n ∧ Rds w (([h0, h1] : List SlH).getD k default).a ((([la, lb] : List (List Rec)).getD k []).flatMap recV)
  | 0, _ => x
  | 1, _ => y
theorem split_c (a b : Option Addr) (na ca nb cb : Nat) (la lb : List Rec) (sq : Bool) (w : World) (hna : la.length = na) (hnb : lb.length = nb) (hra : Rds w a (la.flatMap recV)) (hrb : Rds w b (lb.flatMap recV)) (hba : na ≤ 400000) (hbb : nb ≤ 400000) : Makes Try.prog 73 #[.slice a na ca, .slice b nb cb, .bool sq] w [] (fun x : Option Addr × Nat => .tuple #[.slice x.1 na na, .slice (subA x.1 x.2 na 4) ((mgd sq la lb).length - na) (x.2 - na)]) (fun x => [slR recV 4 23 (mgd sq la lb) x]) (fun x => (mgd sq la lb).length ≤ x.2) := by
 refine calls_S (n := 25) (σ0 := (upd (upd (upd fr0 0 (.slice a na ca)) 1 (.slice b nb cb)) 2 (.bool sq))) (D := []) (A := []) Try.func73 rfl Try.ntmps73 rfl (a3_fr _ _ _) (SH.start w) ?_
 have hml := mgd_len sq la lb
 have hfl : ([la, lb] : List (List Rec)).flatten.length = na + nb := by simp; omega
 refine wpS_seq ?_
 refine wpS_region ?_
 refine s_y (v := .slice none 0 0) (y_assign rfl) rfl ?_
 refine s_y (v := .slice none 0 0) (y_assign rfl) rfl ?_
 refine wpL_nil ?_
 refine thenS_n ?_
 refine wpS_seq ?_
 refine wpS_region ?_
 refine s_y (v := .slice a na ca) (y_move rfl) rfl ?_
 refine s_y (v := .slice b nb cb) (y_move rfl) rfl ?_
 refine s_e rfl ?_
 refine e_bsliceL (e := 69) (m := [(0, .slice a na ca), (1, .slice b nb cb)]) (l := [.slice a na ca, .slice b nb cb]) (evc rfl (evc rfl evn)) (fun w => by kernel_rfl) ?_
 intro b_1
 refine s_e rfl ?_
 refine e_call (f := 167) (args := #[.slice (some ⟨b_1, 0, none⟩) 2 2]) (X := Option Addr × Nat) (A := []) (M := [cel b_1 69 [.slice a na ca, .slice b nb cb]]) (V := slV (([la, lb]).flatten)) (A' := fun x => [slR recV 4 23 (([la, lb]).flatten) x]) (C := fun x => (([la, lb]).flatten).length ≤ x.2) Try.call167 (ev1 rfl) (.p .h .nil) (fun w hs => (concat_c (some ⟨b_1, 0, none⟩) 2 2 ([⟨a, na, ca⟩, ⟨b, nb, cb⟩]) ([la, lb]) w rfl rfl (celR .h w hs) (two_all ⟨hna, oldR hra w hs⟩ ⟨hnb, oldR hrb w hs⟩) (by simp; omega) (by decide)).cap) ?_
 rintro ⟨a_2, c_3⟩ hc4; replace hc4 : (([la, lb]).flatten).length ≤ c_3 := hc4
 refine s_y (v := .bool sq) (y_move rfl) rfl ?_
 refine s_e rfl ?_
 refine e_call (f := 74) (args := #[.slice a_2 ((([la, lb]).flatten).length) c_3, .bool sq]) (X := Option Addr × Nat) (A := []) (M := [osl a_2 c_3 ((([la, lb]).flatten).length) 4 23 ((([la, lb]).flatten).flatMap recV), cel b_1 69 [.slice a na ca, .slice b nb cb]]) (V := slV (msort sq (([la, lb]).flatten))) (A' := fun x => [slR recV 4 23 (msort sq (([la, lb]).flatten)) x]) (C := fun x => (msort sq (([la, lb]).flatten)).length ≤ x.2) Try.call74 (ev2 rfl rfl) (.p .h (.p .h .nil)) (fun w hs => (sort_c a_2 ((([la, lb]).flatten).length) c_3 (([la, lb]).flatten) sq w rfl (oslR .h w hs) (by omega)).cap) ?_
 rintro ⟨a_6, c_7⟩ hc8; replace hc8 : (msort sq (([la, lb]).flatten)).length ≤ c_7 := hc8
 replace hc8 : (mgd sq la lb).length ≤ c_7 := hc8
 refine s_y (v := .slice a_6 ((mgd sq la lb).length) c_7) (y_assign rfl) rfl ?_
 refine wpL_nil ?_
 refine thenS_n ?_
 refine wpS_seq ?_
 refine wpS_lex (by kernel_rfl) (by kernel_rfl) ?_
 refine x_y (v := .slice a_6 ((mgd sq la lb).length) c_7) (y_move rfl) rfl ?_
 refine x_y (v := .slice a na ca) (y_move rfl) rfl ?_
 refine x_y (v := .int .i64 ((na : Nat) : Int)) (y_len (ty' := 0) (at_ := #[]) rfl Try.underlying69) rfl ?_
 refine x_y (v := .slice a na ca) (y_move rfl) rfl ?_
 refine x_y (v := .int .i64 ((na : Nat) : Int)) (y_len (ty' := 0) (at_ := #[]) rfl Try.underlying69) rfl ?_
 refine x_y (v := .slice a_6 na na) (y_sliceHM (h' := na) (m' := na) rfl rfl rfl Try.underlying69 Try.sizeOf23 (by omega) (by omega) (by omega) (by omega) (by omega)) rfl ?_
 refine x_y (v := .slice a_6 ((mgd sq la lb).length) c_7) (y_move rfl) rfl ?_
 refine x_y (v := .slice a na ca) (y_move rfl) rfl ?_
 refine x_y (v := .int .i64 ((na : Nat) : Int)) (y_len (ty' := 0) (at_ := #[]) rfl Try.underlying69) rfl ?_
 refine x_y (v := .slice (subA a_6 c_7 na 4) ((mgd sq la lb).length - na) (c_7 - na)) (y_sliceL (l' := na) rfl rfl Try.underlying69 Try.sizeOf23 (by omega) (by omega) (by omega)) rfl ?_
 refine x_y (v := .slice a_6 na na) (y_assign rfl) rfl ?_
 refine x_y (v := .slice (subA a_6 c_7 na 4) ((mgd sq la lb).length - na) (c_7 - na)) (y_assign rfl) rfl ?_
 refine x_nil ?_
 refine thenS_n ?_
 refine wpS_ret ?_
 refine fin2 (M := [osl a_6 c_7 ((mgd sq la lb).length) 4 23 ((mgd sq la lb).flatMap recV)]) (.inr rfl) (.p .h .nil) Try.results73 (rvT (v := .slice a_6 na na) rfl) (rvT (v := .slice (subA a_6 c_7 na 4) ((mgd sq la lb).length - na) (c_7 - na)) rfl) ?_
 exact fun w' hs => ⟨(a_6, c_7), rfl, hs, by omega⟩
def rk (sq : Bool) (r : Rec) : Int := if r.dead then 340282366920938463463374607431768211456 else r.key.toInt * 18446744073709551616 + (if sq then r.seq.toInt else 0)
theorem i64_bd (x : Int64) : -9223372036854775808 ≤ x.toInt ∧ x.toInt < 9223372036854775808 := ⟨Int64.le_toInt x, Int64.toInt_lt x⟩
theorem ahd_rk (sq : Bool) (a b : Rec) : ahd sq a b = decide (rk sq a < rk sq b) := by
  have h1 := i64_bd a.key
  have h2 := i64_bd b.key
  have h3 := i64_bd a.seq
  have h4 := i64_bd b.seq
  rw [Bool.eq_iff_iff, decide_eq_true_eq]
  unfold ahd rk
  cases sq with
  | true =>
    simp only [if_true]
    rw [before_iff]
    cases a.dead <;> cases b.dead <;> simp <;> omega
  | false =>
    simp only [Bool.false_eq_true, if_false]
    rw [ahead_iff]
    cases a.dead <;> cases b.dead <;> simp <;> omega
def cnt (sq : Bool) (k : Int) (x : List Rec) (q : Nat) : Nat := (x.drop q).countP fun r => decide (k ≤ rk sq r)
def one (sq : Bool) (k : Int) (r : Rec) : Nat := if k ≤ rk sq r then 1 else 0
theorem cnt_at (sq : Bool) (k : Int) (x : List Rec) (q : Nat) (h : q < x.length) : cnt sq k x q = one sq k (x.getD q default) + cnt sq k x (q + 1) := by
  unfold cnt one
  rw [List.drop_eq_getElem_cons h, List.countP_cons]
  simp [List.getD_eq_getElem?_getD, h]
  omega
theorem cnt_le (sq : Bool) (k : Int) (x : List Rec) (q : Nat) : cnt sq k x q ≤ x.length - q := by
  unfold cnt
  have := List.countP_le_length (p := fun r => decide (k ≤ rk sq r)) (l := x.drop q)
  rw [List.length_drop] at this
  exact this
theorem one_le (sq : Bool) (k : Int) (r : Rec) : one sq k r ≤ 1 := by unfold one; split <;> omega
theorem swp_getD (sq : Bool) (i : Nat) (x : List Rec) (h : i + 1 < x.length) (j : Nat) : (swp sq i x).getD j default =
    if ahd sq (x.getD (i + 1) default) (x.getD i default) then (if j = i then x.getD (i + 1) default else if j = i + 1 then x.getD i default else x.getD j default) else x.getD j default := by
  unfold swp
  split
  · simp only [List.getD_eq_getElem?_getD, List.getElem?_set, List.length_set]
    by_cases h1 : i + 1 = j
    · subst h1
      simp [h]
    · by_cases h2 : i = j
      · subst h2
        simp [h1]
        rw [if_pos (by omega)]; rfl
      · rw [if_neg h1, if_neg h2, if_neg (fun e => h2 e.symm), if_neg (fun e => h1 e.symm)]
  · rfl
theorem cnt_far (sq : Bool) (k : Int) (i : Nat) (x y : List Rec) (hl : x.length = y.length) : ∀ (n q : Nat), x.length - q = n → (∀ j, q ≤ j → x.getD j default = y.getD j default) → cnt sq k x q = cnt sq k y q
  | 0, q, hn, h => by
    unfold cnt
    rw [List.drop_eq_nil_of_le (by omega), List.drop_eq_nil_of_le (by omega)]
  | n + 1, q, hn, h => by
    rw [cnt_at sq k x q (by omega), cnt_at sq k y q (by omega), h q (Nat.le_refl _), cnt_far sq k i x y hl n (q + 1) (by omega) (fun j hj => h j (by omega))]
theorem cnt_swp (sq : Bool) (k : Int) (i : Nat) (x : List Rec) (h : i + 1 < x.length) (q : Nat) : cnt sq k (swp sq i x) q = if q = i + 1 then min (cnt sq k x i) (cnt sq k x (i + 2) + 1) else cnt sq k x q := by
  have hL := swp_len sq i x
  have far : cnt sq k (swp sq i x) (i + 2) = cnt sq k x (i + 2) := cnt_far sq k i _ _ hL _ _ rfl fun j hj => by
    rw [swp_getD sq i x h]
    split
    · rw [if_neg (by omega), if_neg (by omega)]
    · rfl
  have a0 := cnt_at sq k x i (by omega)
  have a1 := cnt_at sq k x (i + 1) h
  have b0 := cnt_at sq k (swp sq i x) i (by omega)
  have b1 := cnt_at sq k (swp sq i x) (i + 1) (by omega)
  have g0 := swp_getD sq i x h i
  have g1 := swp_getD sq i x h (i + 1)
  rw [ahd_rk] at g0 g1
  rw [show i + 1 + 1 = i + 2 from rfl] at a1 b1
  have hone : one sq k ((swp sq i x).getD i default) + one sq k ((swp sq i x).getD (i + 1) default) = one sq k (x.getD i default) + one sq k (x.getD (i + 1) default) ∧
      ((one sq k ((swp sq i x).getD (i + 1) default) = one sq k (x.getD i default) ∧ one sq k (x.getD (i + 1) default) ≤ one sq k (x.getD i default)) ∨
       (one sq k ((swp sq i x).getD (i + 1) default) = one sq k (x.getD (i + 1) default) ∧ one sq k (x.getD i default) ≤ one sq k (x.getD (i + 1) default))) := by
    rw [g0, g1]
    by_cases hr : rk sq (x.getD (i + 1) default) < rk sq (x.getD i default)
    · simp only [hr, decide_true, if_true, if_neg (show ¬ i + 1 = i by omega)]
      refine ⟨by omega, .inl ⟨trivial, ?_⟩⟩
      unfold one
      split <;> split <;> omega
    · simp only [hr, decide_false, Bool.false_eq_true, if_false]
      refine ⟨trivial, .inr ⟨trivial, ?_⟩⟩
      unfold one
      split <;> split <;> omega
  have o1 := one_le sq k (x.getD i default)
  have o2 := one_le sq k (x.getD (i + 1) default)
  have same : cnt sq k (swp sq i x) i = cnt sq k x i := by omega
  split
  · subst_vars; rw [Nat.min_def]; split <;> omega
  · rename_i hq
    rcases Nat.lt_or_ge i q with hlt | hge
    · exact cnt_far sq k i _ _ hL _ _ rfl fun j hj => by
        rw [swp_getD sq i x h]
        split
        · rw [if_neg (by omega), if_neg (by omega)]
        · rfl
    ·
      have down : ∀ d, d ≤ i → cnt sq k (swp sq i x) (i - d) = cnt sq k x (i - d) := by
        intro d
        induction d with
        | zero => exact fun _ => same
        | succ d ih =>
          intro hd
          rw [cnt_at sq k _ (i - (d + 1)) (by omega), cnt_at sq k x (i - (d + 1)) (by omega), swp_getD sq i x h, if_neg (by omega : ¬ i - (d + 1) = i), if_neg (by omega : ¬ i - (d + 1) = i + 1), show i - (d + 1) + 1 = i - d by omega, ih (by omega)]
          split <;> rfl
      have := down (i - q) (by omega)
      rwa [show i - (i - q) = q by omega] at this
theorem cnt_row (sq : Bool) (k : Int) (r n : Nat) : ∀ (i : Nat) (x : List Rec), x.length = n → ∀ q, cnt sq k (srow sq r n i x) q = if i + 1 ≤ q ∧ q < n ∧ (q - 1) % 2 = r % 2 then min (cnt sq k x (q - 1)) (cnt sq k x (q + 1) + 1) else cnt sq k x q := by
  intro i x
  induction i, x using srow.induct (sq := sq) (r := r) (n := n) with
  | case2 i x h =>
    intro hx q
    rw [srow_end h, if_neg (by omega)]
  | case1 i x h ih =>
    intro hx q
    simp only [dite_eq_ite] at ih
    rw [srow_next h]
    by_cases hp : i % 2 = r % 2
    · rw [if_pos hp] at ih ⊢
      rw [ih (by rw [swp_len]; exact hx) q]
      by_cases h1 : i + 1 + 1 ≤ q ∧ q < n ∧ (q - 1) % 2 = r % 2
      · rw [if_pos h1, if_pos ⟨by omega, h1.2.1, h1.2.2⟩, cnt_swp sq k i x (by omega), cnt_swp sq k i x (by omega), if_neg (by omega), if_neg (by omega)]
      · rw [if_neg h1, cnt_swp sq k i x (by omega)]
        by_cases h2 : q = i + 1
        · subst h2
          rw [if_pos rfl, if_pos ⟨Nat.le_refl _, by omega, by simpa using hp⟩]
          rfl
        · rw [if_neg h2, if_neg (by omega)]
    · rw [if_neg hp] at ih ⊢
      rw [ih hx q]
      by_cases h1 : i + 1 + 1 ≤ q ∧ q < n ∧ (q - 1) % 2 = r % 2
      · rw [if_pos h1, if_pos ⟨by omega, h1.2.1, h1.2.2⟩]
      · rw [if_neg h1, if_neg (fun h2 => h1 ⟨by have : q ≠ i + 1 := fun e => hp (by have := h2.2.2; rw [e] at this; simpa using this); omega, h2.2⟩)]
def low (n m : Nat) (t q : Nat) : Int := min (min (m : Int) ((n : Int) - q)) (((t : Int) + (((m : Int) - 1) / 2 * 2) - q) / 2 + 1)
theorem cnt_rows (sq : Bool) (k : Int) (n m : Nat) : ∀ (t : Nat) (x : List Rec), t ≤ n → x.length = n → cnt sq k x 0 = m → (∀ q, q ≤ n → low n m t q ≤ (cnt sq k x q : Int)) → ∀ q, q ≤ n → low n m n q ≤ (cnt sq k (srows sq n t x) q : Int) := by
  intro t x
  induction t, x using srows.induct (sq := sq) (n := n) with
  | case2 t x h =>
    intro ht hx hm hl q hq
    rw [srows_done (.inl h)]
    have : t = n := by omega
    subst this
    exact hl q hq
  | case1 t x h ih =>
    intro ht hx hm hl q hq
    rw [srows_next h]
    refine ih (by omega) (by rw [srow_len]; exact hx) ?_ ?_ q hq
    · rw [cnt_row sq k t n 0 x hx, if_neg (by omega)]; exact hm
    · intro q hq
      rw [cnt_row sq k t n 0 x hx]
      have h0 := hl q hq
      unfold low at *
      split
      · rename_i hc
        have h1 := hl (q - 1) (by omega)
        have h2 := hl (q + 1) (by omega)
        omega
      · rename_i hc
        by_cases hqn : q = n
        · subst hqn; omega
        · by_cases hq0 : q = 0
          · subst hq0; omega
          · have : ¬ (q - 1) % 2 = t % 2 := fun e => hc ⟨by omega, by omega, e⟩
            omega
theorem cnt_mono (sq : Bool) (k : Int) (x : List Rec) : ∀ q, cnt sq k x 0 ≤ cnt sq k x q + q := by
  intro q
  induction q with
  | zero => omega
  | succ q ih =>
    rcases Nat.lt_or_ge q x.length with h | h
    · have h1 := cnt_at sq k x q h
      have := one_le sq k (x.getD q default)
      omega
    · have h1 := cnt_le sq k x q
      omega
theorem cnt_msort (sq : Bool) (k : Int) (l : List Rec) (q : Nat) (hq : q ≤ l.length) : min (cnt sq k l 0 : Int) ((l.length : Int) - q) ≤ (cnt sq k (msort sq l) q : Int) := by
  have h := cnt_rows sq k l.length (cnt sq k l 0) 0 l (Nat.zero_le _) rfl rfl (fun q hq => by
    have h1 := cnt_mono sq k l q
    unfold low
    omega) q hq
  unfold low at h
  unfold msort
  omega
theorem cnt_msort0 (sq : Bool) (k : Int) (l : List Rec) : cnt sq k (msort sq l) 0 = cnt sq k l 0 := by
  have go : ∀ (t : Nat) (x : List Rec), x.length = l.length → cnt sq k (srows sq l.length t x) 0 = cnt sq k x 0 := by
    intro t x
    induction t, x using srows.induct (sq := sq) (n := l.length) with
    | case2 t x h => intro _; rw [srows_done (.inl h)]
    | case1 t x h ih =>
      intro hx
      rw [srows_next h, ih (by rw [srow_len]; exact hx), cnt_row sq k t _ 0 x hx, if_neg (by omega)]
  exact go 0 l rfl
theorem msort_sorted (sq : Bool) (l : List Rec) (i j : Nat) (hij : i < j) (hj : j < l.length) : ahd sq ((msort sq l).getD j default) ((msort sq l).getD i default) = false := by
  rw [ahd_rk, decide_eq_false_iff_not]
  intro hlt
  have hL := msort_len sq l
  have h1 := cnt_msort sq (rk sq ((msort sq l).getD i default)) l (i + 1) (by omega)
  have h2 := cnt_at sq (rk sq ((msort sq l).getD i default)) (msort sq l) i (by omega)
  have h3 := cnt_msort0 sq (rk sq ((msort sq l).getD i default)) l
  have h4 : one sq (rk sq ((msort sq l).getD i default)) ((msort sq l).getD i default) = 1 := by unfold one; rw [if_pos (Int.le_refl _)]
  have up : ∀ q, cnt sq (rk sq ((msort sq l).getD i default)) (msort sq l) (q + 1) ≤ cnt sq (rk sq ((msort sq l).getD i default)) (msort sq l) q := fun q => by
    rcases Nat.lt_or_ge q (msort sq l).length with h | h
    · have := cnt_at sq (rk sq ((msort sq l).getD i default)) (msort sq l) q h; omega
    · have := cnt_le sq (rk sq ((msort sq l).getD i default)) (msort sq l) (q + 1); omega
  have up0 : ∀ q, cnt sq (rk sq ((msort sq l).getD i default)) (msort sq l) q ≤ cnt sq (rk sq ((msort sq l).getD i default)) (msort sq l) 0 := fun q => by
    induction q with
    | zero => omega
    | succ q ih => have := up q; omega
  have h5 := up0 i
  -- one from i + 1 on is too low
  have h6 : cnt sq (rk sq ((msort sq l).getD i default)) (msort sq l) (i + 1) < l.length - (i + 1) := by
    have go : ∀ d, d ≤ j - (i + 1) → cnt sq (rk sq ((msort sq l).getD i default)) (msort sq l) (j - d) < l.length - (j - d) := by
      intro d
      induction d with
      | zero =>
        intro _
        have a := cnt_at sq (rk sq ((msort sq l).getD i default)) (msort sq l) j (by omega)
        have b : one sq (rk sq ((msort sq l).getD i default)) ((msort sq l).getD j default) = 0 := by unfold one; rw [if_neg (by omega)]
        have c := cnt_le sq (rk sq ((msort sq l).getD i default)) (msort sq l) (j + 1)
        simp only [Nat.sub_zero]
        omega
      | succ d ih =>
        intro hd
        have a := cnt_at sq (rk sq ((msort sq l).getD i default)) (msort sq l) (j - (d + 1)) (by omega)
        have b := one_le sq (rk sq ((msort sq l).getD i default)) ((msort sq l).getD (j - (d + 1)) default)
        have c := ih (by omega)
        rw [show j - (d + 1) + 1 = j - d by omega] at a
        omega
    have := go (j - (i + 1)) (Nat.le_refl _)
    rwa [show j - (j - (i + 1)) = i + 1 by omega] at this
  omega
theorem split_at2 (x : List Rec) (i : Nat) (h : i + 1 < x.length) : x = x.take i ++ x.getD i default :: x.getD (i + 1) default :: x.drop (i + 2) := by
  have h0 : i < x.length := by omega
  have e : x.drop i = x.getD i default :: x.getD (i + 1) default :: x.drop (i + 2) := by
    rw [List.drop_eq_getElem_cons h0, List.drop_eq_getElem_cons h]
    simp [List.getD_eq_getElem?_getD, h0, h]
  rw [← e, List.take_append_drop]
theorem swp_split (sq : Bool) (x : List Rec) (i : Nat) (h : i + 1 < x.length) (ha : ahd sq (x.getD (i + 1) default) (x.getD i default) = true) : swp sq i x = x.take i ++ x.getD (i + 1) default :: x.getD i default :: x.drop (i + 2) := by
  unfold swp
  rw [if_pos ha]
  have hl : (x.take i).length = i := by rw [List.length_take]; omega
  conv => lhs; rw [show x.set i (x.getD (i + 1) default) = (x.take i ++ x.getD i default :: x.getD (i + 1) default :: x.drop (i + 2)).set i (x.getD (i + 1) default) from by rw [← split_at2 x i h]]
  rw [List.set_append_right _ _ (by omega), hl, Nat.sub_self, List.set_cons_zero, List.set_append_right _ _ (by omega), hl, show i + 1 - i = 1 by omega]
  rfl
def Srt (sq : Bool) (l : List Rec) : Prop := l.Pairwise fun a b => rk sq a ≤ rk sq b
theorem srt_of (sq : Bool) (l : List Rec) (h : ∀ i j, i < j → j < l.length → ahd sq (l.getD j default) (l.getD i default) = false) : Srt sq l := by
  unfold Srt
  rw [List.pairwise_iff_getElem]
  intro i j hi hj hij
  have := h i j hij hj
  rw [ahd_rk, decide_eq_false_iff_not] at this
  simp [List.getD_eq_getElem?_getD, hi, hj] at this
  omega
theorem srt_msort (sq : Bool) (l : List Rec) : Srt sq (msort sq l) := srt_of sq _ fun i j hij hj => msort_sorted sq l i j hij (by rw [msort_len] at hj; exact hj)
def sml (sq : Bool) (v : Int) (x : List Rec) : Nat := x.countP fun r => decide (rk sq r < v)
theorem sml_le (sq : Bool) (v : Int) (x : List Rec) : sml sq v x ≤ x.length := List.countP_le_length
theorem sml_app (sq : Bool) (v : Int) (x y : List Rec) : sml sq v (x ++ y) = sml sq v x + sml sq v y := List.countP_append
theorem sml_cnt (sq : Bool) (v : Int) (x : List Rec) : sml sq v x + cnt sq v x 0 = x.length := by
  unfold sml cnt
  rw [List.drop_zero]
  have := List.length_eq_countP_add_countP (fun r => decide (rk sq r < v)) (l := x)
  rw [this]
  congr 1
  refine List.countP_congr fun r _ => ?_
  simp [Int.not_lt]
theorem sml_msort (sq : Bool) (v : Int) (x : List Rec) : sml sq v (msort sq x) = sml sq v x := by
  have h1 := sml_cnt sq v x
  have h2 := sml_cnt sq v (msort sq x)
  have h3 := cnt_msort0 sq v x
  rw [msort_len] at h2
  omega
theorem sml_take (sq : Bool) (v : Int) : ∀ (l : List Rec), Srt sq l → ∀ S, S ≤ l.length → sml sq v (l.take S) = min S (sml sq v l)
  | [], _, S, h => by have : S = 0 := by simpa using h
                      subst this; simp [sml]
  | x :: l, hs, 0, _ => by simp [sml]
  | x :: l, hs, S + 1, h => by
    have hc := List.pairwise_cons.1 hs
    have ih := sml_take sq v l hc.2 S (by simpa using h)
    have e1 : sml sq v ((x :: l).take (S + 1)) = sml sq v [x] + sml sq v (l.take S) := by rw [List.take_succ_cons]; exact sml_app sq v [x] _
    have e2 : sml sq v (x :: l) = sml sq v [x] + sml sq v l := sml_app sq v [x] l
    rw [e1, e2, ih]
    by_cases hx : rk sq x < v
    · have : sml sq v [x] = 1 := by simp [sml, hx]
      omega
    · have h1 : sml sq v [x] = 0 := by simp [sml, hx]
      have h2 : sml sq v l = 0 := by
        unfold sml
        rw [List.countP_eq_zero]
        intro y hy
        have := hc.1 y hy
        simp only [decide_eq_true_eq]
        omega
      omega
theorem sml_drop (sq : Bool) (v : Int) (l : List Rec) (hs : Srt sq l) (S : Nat) (h : S ≤ l.length) : sml sq v (l.drop S) = sml sq v l - S := by
  have h1 := sml_take sq v l hs S h
  have h2 : sml sq v l = sml sq v (l.take S) + sml sq v (l.drop S) := by rw [← sml_app, List.take_append_drop]
  omega
theorem srt_take {sq : Bool} {l : List Rec} (h : Srt sq l) (k : Nat) : Srt sq (l.take k) := List.Pairwise.sublist (List.take_sublist k l) h
theorem srt_drop {sq : Bool} {l : List Rec} (h : Srt sq l) (k : Nat) : Srt sq (l.drop k) := List.Pairwise.sublist (List.drop_sublist k l) h
def blkStep (sq up : Bool) (d : Nat) (B : List (List Rec)) (a : Nat) : List (List Rec) :=
  let m := mgd sq (B.getD a []) (B.getD (a + d) [])
  let n := (B.getD a []).length
  (B.set a (if up then m.take n else m.drop n)).set (a + d) (if up then m.drop n else m.take n)
def BInv (sq : Bool) (n S : Nat) (B : List (List Rec)) : Prop := B.length = n ∧ ∀ x ∈ B, x.length = S ∧ Srt sq x
theorem getD_mem {B : List (List Rec)} {a : Nat} (h : a < B.length) : B.getD a [] ∈ B := by
  rw [List.getD_eq_getElem?_getD, List.getElem?_eq_getElem h]; exact List.getElem_mem _
theorem getD_set1 {B : List (List Rec)} {a c : Nat} {x : List Rec} (h : a < B.length) : (B.set a x).getD c [] = if c = a then x else B.getD c [] := by
  rw [List.getD_eq_getElem?_getD, List.getElem?_set]
  by_cases hc : c = a
  · subst hc; simp [h]
  · rw [if_neg (fun e => hc e.symm), if_neg hc, List.getD_eq_getElem?_getD]
theorem blk_step {sq up : Bool} {n S d : Nat} {B : List (List Rec)} {a : Nat} (hB : BInv sq n S B) (hd : 0 < d) (ha : a + d < n) :
    BInv sq n S (blkStep sq up d B a) ∧ ∀ v c, sml sq v ((blkStep sq up d B a).getD c []) = Bit.pairZ S d up a (fun i => sml sq v (B.getD i [])) c := by
  obtain ⟨hl, hall⟩ := hB
  obtain ⟨la, sa⟩ := hall _ (getD_mem (B := B) (a := a) (by omega))
  obtain ⟨lb, sb⟩ := hall _ (getD_mem (B := B) (a := a + d) (by omega))
  have hm := mgd_len sq (B.getD a []) (B.getD (a + d) [])
  have hs : Srt sq (mgd sq (B.getD a []) (B.getD (a + d) [])) := srt_msort sq _
  have hc : ∀ v, sml sq v (mgd sq (B.getD a []) (B.getD (a + d) [])) = sml sq v (B.getD a []) + sml sq v (B.getD (a + d) []) := fun v => by
    unfold mgd; rw [sml_msort]; simp [sml_app]
  unfold blkStep
  simp only []
  generalize hM : mgd sq (B.getD a []) (B.getD (a + d) []) = m at *
  refine ⟨⟨by simp [hl], fun x hx => ?_⟩, fun v c => ?_⟩
  · rcases List.mem_or_eq_of_mem_set hx with hx | rfl
    · rcases List.mem_or_eq_of_mem_set hx with hx | rfl
      · exact hall x hx
      · cases up <;> simp only [Bool.false_eq_true, if_false, if_true]
        · exact ⟨by rw [List.length_drop]; omega, srt_drop hs _⟩
        · exact ⟨by rw [List.length_take]; omega, srt_take hs _⟩
    · cases up <;> simp only [Bool.false_eq_true, if_false, if_true]
      · exact ⟨by rw [List.length_take]; omega, srt_take hs _⟩
      · exact ⟨by rw [List.length_drop]; omega, srt_drop hs _⟩
  · rw [getD_set1 (by simp; omega), getD_set1 (by omega)]
    have t1 := sml_take sq v m hs (B.getD a []).length (by omega)
    have t2 := sml_drop sq v m hs (B.getD a []).length (by omega)
    rw [hc v, la] at t1 t2
    unfold Bit.pairZ
    rw [la]
    by_cases h1 : c = a
    · subst h1
      rw [if_neg (by omega), if_pos rfl, if_pos rfl]
      cases up <;> simp [t1, t2]
    · by_cases h2 : c = a + d
      · subst h2
        rw [if_pos rfl, if_neg h1, if_pos rfl]
        cases up <;> simp [t1, t2]
      · rw [if_neg h2, if_neg h1, if_neg h1, if_neg h2]
theorem srt_flat {sq : Bool} {n S : Nat} {B : List (List Rec)} (hB : BInv sq n S B) (h : ∀ v, ∃ L, ∀ i, i < n → sml sq v (B.getD i []) = min S (L - i * S)) : Srt sq B.flatten := by
  unfold Srt
  rw [List.pairwise_flatten]
  refine ⟨fun l hl => (hB.2 l hl).2, ?_⟩
  rw [List.pairwise_iff_getElem]
  intro i j hi hj hij x hx y hy
  by_cases hlt : rk sq y < rk sq x
  · exfalso
    obtain ⟨L, hL⟩ := h (rk sq x)
    have e1 := hL i (by rw [← hB.1]; exact hi)
    have e2 := hL j (by rw [← hB.1]; exact hj)
    rw [List.getD_eq_getElem?_getD, List.getElem?_eq_getElem hi, Option.getD_some] at e1
    rw [List.getD_eq_getElem?_getD, List.getElem?_eq_getElem hj, Option.getD_some] at e2
    have hy1 : 0 < sml sq (rk sq x) B[j] := List.countP_pos_iff.2 ⟨y, hy, by simpa using hlt⟩
    have hle : (i + 1) * S ≤ j * S := Nat.mul_le_mul_right S (by omega)
    rw [Nat.succ_mul] at hle
    have hS := (hB.2 _ (List.getElem_mem hi)).1
    have hfull : sml sq (rk sq x) B[i] = B[i].length := by omega
    have := List.countP_eq_length.1 hfull x hx
    simp at this
  · omega
theorem net_blocks {sq : Bool} {K S : Nat} {st : Nat → Nat × Nat} (hst : ∀ s j, s < K → j ≤ s → st (Bit.tri s + j) = (s + 1, s + 1 - j)) {B : List (List Rec)} (hB : BInv sq (2 ^ K) S B) :
    BInv sq (2 ^ K) S (Bit.netTo (2 ^ K) (fun r => 2 ^ ((st r).2 - 1)) (fun r X a => blkStep sq (decide (a / 2 ^ (st r).1 % 2 = 0)) (2 ^ ((st r).2 - 1)) X a) B (Bit.tri K)) ∧
    Srt sq (Bit.netTo (2 ^ K) (fun r => 2 ^ ((st r).2 - 1)) (fun r X a => blkStep sq (decide (a / 2 ^ (st r).1 % 2 = 0)) (2 ^ ((st r).2 - 1)) X a) B (Bit.tri K)).flatten := by
  have key := fun v => Bit.net_srt (T := List (List Rec)) (inv := BInv sq (2 ^ K) S) (ζ := fun X i => sml sq v (X.getD i [])) (S := S) (K := K) (st := st)
    (step := fun r X a => blkStep sq (decide (a / 2 ^ (st r).1 % 2 = 0)) (2 ^ ((st r).2 - 1)) X a) (X := B) hst hB
    (fun X hX a => by
      by_cases h : a < X.length
      · have := (hX.2 _ (getD_mem h)).1; have := sml_le sq v (X.getD a []); omega
      · simp [List.getD_eq_getElem?_getD, List.getElem?_eq_none (by omega : X.length ≤ a), sml])
    (fun X hX a h => by simp [List.getD_eq_getElem?_getD, List.getElem?_eq_none (by rw [hX.1]; exact h : X.length ≤ a), sml])
    (fun r X a _ hX h1 _ => by
      have := blk_step (up := decide (a / 2 ^ (st r).1 % 2 = 0)) hX (Nat.two_pow_pos _) h1
      exact ⟨this.1, this.2 v⟩)
  exact ⟨(key 0).1, srt_flat (key 0).1 (fun v => (key v).2)⟩
theorem far_c (n r : Int) (n1 : -9223372036854775808 ≤ n) (n2 : n < 9223372036854775808) (r1 : -9223372036854775808 ≤ r) (r2 : r < 9223372036854775808) (w : World) : Pure Try.prog 153 #[.int .i64 n, .int .i64 r] w (.int .i64 (((far n r) : Nat) : Int)) := by
 refine calls_S (n := 20) (σ0 := (upd (upd fr0 0 (.int .i64 n)) 1 (.int .i64 r))) (D := []) (A := []) Try.func153 rfl Try.ntmps153 rfl (a2_fr _ _) (SH.start w) ?_
 have hb := stp_bd n r
 refine wpS_seq ?_
 refine wpS_region ?_
 refine s_y (v := .int .i64 0) (y_assign rfl) rfl ?_
 refine wpL_nil ?_
 refine thenS_n ?_
 refine wpS_seq ?_
 refine wpS_region ?_
 refine s_y (v := .int .i64 n) (y_move rfl) rfl ?_
 refine s_y (v := .int .i64 r) (y_move rfl) rfl ?_
 refine s_y (v := .tuple #[.int .i64 (((stp n r).1 : Nat) : Int), .int .i64 (((stp n r).2 : Nat) : Int), .bool (decide (0 < (stp n r).1))]) (y_call (args := #[.int .i64 n, .int .i64 r]) Try.call158 (ev2 rfl rfl) (fun w hs => step_c n r (by omega) (by omega) (by omega) (by omega) w)) rfl ?_
 refine s_y (v := .tuple #[.int .i64 (((stp n r).1 : Nat) : Int), .int .i64 (((stp n r).2 : Nat) : Int), .bool (decide (0 < (stp n r).1))]) (y_move rfl) rfl ?_
 refine s_y (v := .int .i64 (((stp n r).1 : Nat) : Int)) (y_extract rfl rfl) rfl ?_
 refine s_y (v := .int .i64 (((stp n r).2 : Nat) : Int)) (y_extract rfl rfl) rfl ?_
 refine s_y (v := .bool (decide (0 < (stp n r).1))) (y_extract rfl rfl) rfl ?_
 refine s_y (v := .int .i64 (((stp n r).1 : Nat) : Int)) (y_assign rfl) rfl ?_
 refine s_y (v := .int .i64 (((stp n r).2 : Nat) : Int)) (y_assign rfl) rfl ?_
 refine s_y (v := .bool (decide (0 < (stp n r).1))) (y_assign rfl) rfl ?_
 refine wpL_nil ?_
 refine thenS_n ?_
 refine wpS_seq ?_
 refine wpS_seq ?_
 refine wpS_region ?_
 refine s_y (v := .bool (decide (0 < (stp n r).1))) (y_move rfl) rfl ?_
 refine s_y (v := .bool (!(decide (0 < (stp n r).1)))) (y_not (b := decide (0 < (stp n r).1)) rfl) rfl ?_
 refine wpL_nil ?_
 refine thenS_n ?_
 refine wpS_cond (t := !(decide (0 < (stp n r).1))) rfl (fun b1 => ?_) (fun b1 => ?_)
 ·
  have b2 : (decide (0 < (stp n r).1)) = false := by simpa using b1
  have p2 := of_decide_eq_false b2
  refine wpS_seq ?_
  refine wpS_region ?_
  refine s_y (v := .int .i64 0) (y_assign rfl) rfl ?_
  refine wpL_nil ?_
  refine thenS_n ?_
  refine wpS_ret ?_
  refine thenS_r ?_
  refine fin1 (M := []) (v := .int .i64 0) (.inr rfl) (.nil) Try.results153 rfl ?_
  exact fun w' hs => ⟨congrArg (fun n : Nat => Ending.returned (.int .i64 (n : Int))) (by unfold far; simp [*]), hs⟩
 ·
  have b3 : (decide (0 < (stp n r).1)) = true := by simpa using b1
  have p3 := of_decide_eq_true b3
  refine wpS_skip ?_
  refine thenS_n ?_
  refine wpS_seq ?_
  refine wpS_region ?_
  refine s_y (v := .int .i64 (((stp n r).2 : Nat) : Int)) (y_move rfl) rfl ?_
  refine s_y (v := .int .i64 ((((stp n r).2 - 1) : Nat) : Int)) (y_sub (a := (((stp n r).2 : Nat) : Int)) (b := 1) rfl rfl (wI (by omega) (by omega) (by omega))) rfl ?_
  refine s_y (v := .int .i64 (((2 ^ ((stp n r).2 - 1)) : Nat) : Int)) (y_shl (a := 1) (b := ((((stp n r).2 - 1) : Nat) : Int)) rfl rfl (by omega) (z1_shl ((((stp n r).2 - 1) : Nat) : Int) (by omega) (by omega))) rfl ?_
  refine s_y (v := .int .i64 (((2 ^ ((stp n r).2 - 1)) : Nat) : Int)) (y_assign rfl) rfl ?_
  refine wpL_nil ?_
  refine thenS_n ?_
  refine wpS_ret ?_
  refine fin1 (M := []) (v := .int .i64 (((2 ^ ((stp n r).2 - 1)) : Nat) : Int)) (.inr rfl) (.nil) Try.results153 rfl ?_
  exact fun w' hs => ⟨congrArg (fun n : Nat => Ending.returned (.int .i64 (n : Int))) (by unfold far; simp [*]), hs⟩
def frs (n r : Int) : List Nat := if far n r = 0 then [] else Bit.firsts n.toNat (far n r)
theorem far_pow {n r : Int} (h : 0 < far n r) : far n r = 2 ^ ((stp n r).2 - 1) := by
  unfold far at *
  split at h
  · rw [if_pos (by assumption)]
  · omega
theorem far_le (n r : Int) : far n r ≤ 32768 := by
  have hb := stp_bd n r
  unfold far
  split
  · have := Nat.pow_le_pow_right (n := 2) (by decide) (show (stp n r).2 - 1 ≤ 15 by omega)
    omega
  · omega
theorem and_bit {n r : Int} (h : 0 < far n r) {a : Nat} : (a &&& far n r = 0) ↔ a / far n r % 2 = 0 := by
  rw [far_pow h]
  generalize (stp n r).2 - 1 = j
  have e : a.testBit j = decide (a / 2 ^ j % 2 = 1) := Nat.testBit_eq_decide_div_mod_eq
  constructor
  · intro h0
    have h1 : (a &&& 2 ^ j).testBit j = false := by rw [h0]; exact Nat.zero_testBit j
    rw [Nat.testBit_and, Nat.testBit_two_pow_self, Bool.and_true, e, decide_eq_false_iff_not] at h1
    omega
  · intro h0
    apply Nat.eq_of_testBit_eq
    intro i
    rw [Nat.testBit_and, Nat.testBit_two_pow, Nat.zero_testBit]
    by_cases hji : j = i
    · subst hji; rw [e, h0]; rfl
    · simp [hji]
theorem far_n {n r : Int} (h : 0 < far n r) : n ≤ 65536 := by
  unfold far at h
  split at h
  · rename_i h1
    have h2 : 0 < stgN n := by
      by_cases hr : r < 0
      · unfold stp at h1; rw [if_pos hr] at h1; cases h1
      · rw [stp_at hr] at h1
        have := (stpA_bd (stgN n) 1 r.toNat (by omega)).1
        omega
    have h3 := stgN_eq n
    have h4 : stg n ≠ -1 := by omega
    unfold stg at h4
    split at h4
    · omega
    · exact absurd rfl h4
  · omega
theorem frs_none {n r : Int} (h : far n r = 0) : (frs n r).length = 0 := by unfold frs; rw [if_pos h]; rfl
theorem firsts_app (d : Nat) : ∀ (m a : Nat), a ≤ m → ∃ t, Bit.firsts m d = Bit.firsts a d ++ t
  | 0, a, h => by obtain rfl : a = 0 := by omega
                  exact ⟨[], by simp⟩
  | m + 1, a, h => by
    by_cases e : a = m + 1
    · subst e; exact ⟨[], by simp⟩
    · obtain ⟨t, ht⟩ := firsts_app d m a (by omega)
      rw [Bit.firsts_succ, ht]
      split
      · exact ⟨t ++ [m], by simp⟩
      · exact ⟨t, rfl⟩
theorem frs_at {n r : Int} {a : Nat} (h : 0 < far n r) (ha : (a : Int) < n) (hb : a / far n r % 2 = 0) : (Bit.firsts a (far n r)).length < (frs n r).length ∧ (frs n r).getD (Bit.firsts a (far n r)).length 0 = a := by
  unfold frs
  rw [if_neg (by omega)]
  obtain ⟨t, ht⟩ := firsts_app (far n r) n.toNat (a + 1) (by omega)
  rw [Bit.firsts_succ, if_pos hb] at ht
  rw [ht]
  constructor
  · simp only [List.length_append, List.length_cons, List.length_nil]; omega
  · rw [List.getD_eq_getElem?_getD, List.append_assoc, List.getElem?_append_right (Nat.le_refl _), Nat.sub_self]
    rfl
theorem frs_lt {n r : Int} {a : Nat} (h : 0 < far n r) (ha : (a : Int) < n) (hb : a / far n r % 2 = 0) : (Bit.firsts a (far n r)).length < (frs n r).length := (frs_at h ha hb).1
theorem frs_enc {n r : Int} {a : Nat} (h : 0 < far n r) (ha : (a : Int) < n) (hb : a / far n r % 2 = 0) :
    (#[.int .i64 ((a : Nat) : Int), .int .i64 (((a + far n r) : Nat) : Int)] : Array Value) = #[.int .i64 (((frs n r).getD (Bit.firsts a (far n r)).length 0 : Nat) : Int), .int .i64 (((frs n r).getD (Bit.firsts a (far n r)).length 0 + far n r : Nat) : Int)] := by
  rw [(frs_at h ha hb).2]
theorem frs_all {n r : Int} {a : Nat} (h : 0 < far n r) (ha : a = n.toNat) : (Bit.firsts a (far n r)).length = (frs n r).length := by
  unfold frs
  rw [if_neg (by omega), ha]
theorem firsts_len1 {d a : Nat} (hb : a / d % 2 = 0) : (Bit.firsts (a + 1) d).length = (Bit.firsts a d).length + 1 := by rw [Bit.firsts_succ, if_pos hb]; simp
theorem firsts_len0 {d a : Nat} (hb : ¬ a / d % 2 = 0) : (Bit.firsts (a + 1) d).length = (Bit.firsts a d).length := by rw [Bit.firsts_succ, if_neg hb]
theorem round_c (n r : Int) (w : World) : Makes Try.prog 53 #[.int .i64 n, .int .i64 r] w [] (X := Nat × Nat) (fun x : Nat × Nat => .func (.func 152) #[] #[.pointer (some ⟨x.1, 0, none⟩), .pointer (some ⟨x.2, 0, none⟩)]) (fun x : Nat × Nat => [cel x.1 3 [.int .i64 n], cel x.2 3 [.int .i64 r]]) (fun _ => True) := by
 refine calls_S (n := 6) (σ0 := (upd (upd fr0 0 (.int .i64 n)) 1 (.int .i64 r))) (D := []) (A := []) Try.func53 rfl Try.ntmps53 rfl (a2_fr _ _) (SH.start w) ?_
 refine wpS_seq ?_
 refine wpS_region ?_
 refine s_e rfl ?_
 refine e_box (v := .int .i64 n) (l := [.int .i64 n]) rfl rfl ?_
 intro b_1
 refine s_e rfl ?_
 refine e_box (v := .int .i64 r) (l := [.int .i64 r]) rfl rfl ?_
 intro b_2
 refine s_y (v := .nilFunc) (y_assign rfl) rfl ?_
 refine wpL_nil ?_
 refine thenS_n ?_
 refine wpS_seq ?_
 refine wpS_region ?_
 refine s_y (v := .func (.func 152) #[] #[.pointer (some ⟨b_1, 0, none⟩), .pointer (some ⟨b_2, 0, none⟩)]) (y_makeFunc (a := #[]) (b := #[.pointer (some ⟨b_1, 0, none⟩), .pointer (some ⟨b_2, 0, none⟩)]) ev0 (ev2 rfl rfl)) rfl ?_
 refine s_y (v := .func (.func 152) #[] #[.pointer (some ⟨b_1, 0, none⟩), .pointer (some ⟨b_2, 0, none⟩)]) (y_assign rfl) rfl ?_
 refine wpL_nil ?_
 refine thenS_n ?_
 refine wpS_ret ?_
 refine fin1 (M := [cel b_1 3 [.int .i64 n], cel b_2 3 [.int .i64 r]]) (v := .func (.func 152) #[] #[.pointer (some ⟨b_1, 0, none⟩), .pointer (some ⟨b_2, 0, none⟩)]) (.inr rfl) (.p (.t .h) (.p .h .nil)) Try.results53 rfl ?_
 exact fun w' hs => ⟨(b_1, b_2), rfl, hs, trivial⟩
theorem round_it (b2 b3 : Nat) (n r : Int) (n1 : -9223372036854775808 ≤ n) (n2 : n < 9223372036854775808) (r1 : -9223372036854775808 ≤ r) (r2 : r < 9223372036854775808) (w : World) (hb2 : w.cell? ⟨b2, 0, none⟩ = some (.int .i64 n)) (hb3 : w.cell? ⟨b3, 0, none⟩ = some (.int .i64 r)) : Iter Try.prog 152 #[.pointer (some ⟨b2, 0, none⟩), .pointer (some ⟨b3, 0, none⟩)] (fun k => #[.int .i64 (((frs n r).getD k 0 : Nat) : Int), .int .i64 (((frs n r).getD k 0 + far n r : Nat) : Int)]) ((frs n r).length) (fun x => x = b2 ∨ x = b3) w := by
 intro yv I E A hrd hI hA hY
 show Calls Try.prog 152 #[yv, .pointer (some ⟨b2, 0, none⟩), .pointer (some ⟨b3, 0, none⟩)] w _
 refine calls_S (n := 29) (σ0 := (upd (upd (upd fr0 0 yv) 1 (.pointer (some ⟨b2, 0, none⟩))) 2 (.pointer (some ⟨b3, 0, none⟩)))) (D := (A.flatMap Res.fp)) (A := A) Try.func152 rfl Try.ntmps152 rfl (a3_fr _ _ _) hA ?_
 have hfl := far_le n r
 refine wpS_seq ?_
 refine wpS_region ?_
 refine s_y (v := .int .i64 n) (y_load1 rfl Try.isAgg3 (old1 hb2 (hrd _ (by simp)))) rfl ?_
 refine s_y (v := .int .i64 r) (y_load1 rfl Try.isAgg3 (old1 hb3 (hrd _ (by simp)))) rfl ?_
 refine s_y (v := .int .i64 (((far n r) : Nat) : Int)) (y_call (args := #[.int .i64 n, .int .i64 r]) Try.call153 (ev2 rfl rfl) (fun w hs => far_c n r (by omega) (by omega) (by omega) (by omega) w)) rfl ?_
 refine s_y (v := .int .i64 (((far n r) : Nat) : Int)) (y_assign rfl) rfl ?_
 refine wpL_nil ?_
 refine thenS_n ?_
 refine wpS_seq ?_
 refine wpS_seq ?_
 refine wpS_region ?_
 refine s_y (v := .int .i64 (((far n r) : Nat) : Int)) (y_move rfl) rfl ?_
 refine s_y (v := .bool (decide (((far n r) : Nat) = 0))) (y_eql (a := (((far n r) : Nat) : Int)) (b := 0) (c := decide (((far n r) : Nat) = 0)) rfl rfl (decide_eq_decide.2 (by omega))) rfl ?_
 refine wpL_nil ?_
 refine thenS_n ?_
 refine wpS_cond (t := decide (((far n r) : Nat) = 0)) rfl (fun b1 => ?_) (fun b1 => ?_)
 ·
  have p1 := of_decide_eq_true b1
  refine wpS_ret ?_
  refine thenS_r ?_
  exact fin0 (.inr rfl) (Ent.refl _) Try.results152 (fun w' hs => ⟨rfl, A, hs, .inl (by rw [frs_none (by omega)]; exact hI)⟩)
 ·
  have p1 := of_decide_eq_false b1
  have hfar : 0 < far n r := by omega
  have hn6 := far_n hfar
  refine wpS_skip ?_
  refine thenS_n ?_
  refine wpS_seq ?_
  refine wpS_region ?_
  refine s_y (v := .int .i64 n) (y_load1 rfl Try.isAgg3 (old1 hb2 (hrd _ (by simp)))) rfl ?_
  refine s_y (v := .int .i64 0) (y_move rfl) rfl ?_
  refine wpL_nil ?_
  refine thenS_n ?_
  refine wpS_block ?_
  refine wpS_loop (fun m ds σ L => ∃ a : Nat, ∃ A1 : List Res, m = n.toNat - a ∧ (a ≤ n.toNat) ∧ (I (Bit.firsts a (far n r)).length A1) ∧ ds = [] ∧ σ 0 = yv ∧ σ 4 = .int .i64 (((far n r) : Nat) : Int) ∧ σ 11 = .int .i64 n ∧ σ 12 = .int .i64 ((a : Nat) : Int) ∧ Ent L A1) (m0 := n.toNat - 0) ⟨0, A, rfl, by omega, hI, rfl, rfl, rfl, rfl, rfl, (Ent.refl _)⟩ ?_
  rintro m ds σ L ⟨a, A1, hm_2, hf0_2, hf1_2, rfl, h0_2, h4_2, h11_2, h12_2, hE_2⟩
  refine wpS_ent hE_2 ?_; clear hE_2
  refine wpS_seq ?_
  refine wpS_region ?_
  refine s_y (v := .bool (decide ((((a : Nat) : Int) : Int) < n))) (y_lss (a := ((a : Nat) : Int)) (b := n) h12_2 h11_2 rfl) rfl ?_
  refine wpL_nil ?_
  refine thenS_n ?_
  refine wpS_seq ?_
  refine wpS_cond (t := decide ((((a : Nat) : Int) : Int) < n)) rfl (fun b3 => ?_) (fun b3 => ?_)
  ·
   have p3 := of_decide_eq_true b3
   refine wpS_skip ?_
   refine thenS_n ?_
   refine wpS_seq ?_
   refine wpS_block ?_
   refine wpS_seq ?_
   refine wpS_region ?_
   refine s_y (v := .int .i64 ((a : Nat) : Int)) (y_move h12_2) rfl ?_
   refine s_y (v := .int .i64 ((a : Nat) : Int)) (y_assign rfl) rfl ?_
   refine wpL_nil ?_
   refine thenS_n ?_
   refine wpS_seq ?_
   refine wpS_region ?_
   refine s_y (v := .int .i64 ((a : Nat) : Int)) (y_move rfl) rfl ?_
   refine s_y (v := .int .i64 (((far n r) : Nat) : Int)) (y_move h4_2) rfl ?_
   refine s_y (v := .int .i64 (((a &&& (far n r)) : Nat) : Int)) (y_and (a := ((a : Nat) : Int)) (b := (((far n r) : Nat) : Int)) rfl rfl (zi_and ((a : Nat) : Int) (((far n r) : Nat) : Int) (by omega) (by omega) (by omega) (by omega))) rfl ?_
   refine s_y (v := .bool (decide (((a &&& (far n r)) : Nat) = 0))) (y_eql (a := (((a &&& (far n r)) : Nat) : Int)) (b := 0) (c := decide (((a &&& (far n r)) : Nat) = 0)) rfl rfl (decide_eq_decide.2 (by omega))) rfl ?_
   refine s_y (v := .bool (decide (((a &&& (far n r)) : Nat) = 0))) (y_move rfl) rfl ?_
   rcases Bool.eq_false_or_eq_true (decide (((a &&& (far n r)) : Nat) = 0)) with b4 | b4
   ·
    have p4 := of_decide_eq_true b4
    have hbitb4 := (and_bit hfar).1 (by omega)
    refine s_gy (y_move h0_2) rfl rfl rfl rfl (b' := decide (((a &&& (far n r)) : Nat) = 0)) rfl b4 ?_
    refine s_gy (y_move rfl) rfl rfl rfl rfl (b' := decide (((a &&& (far n r)) : Nat) = 0)) rfl b4 ?_
    refine s_gy (y_move rfl) rfl rfl rfl rfl (b' := decide (((a &&& (far n r)) : Nat) = 0)) rfl b4 ?_
    refine s_gy (y_move h4_2) rfl rfl rfl rfl (b' := decide (((a &&& (far n r)) : Nat) = 0)) rfl b4 ?_
    refine s_gy (y_add (a := ((a : Nat) : Int)) (b := (((far n r) : Nat) : Int)) (c := (((a + (far n r)) : Nat) : Int)) rfl rfl (wI (by omega) (by omega) (by omega))) rfl rfl rfl rfl (b' := decide (((a &&& (far n r)) : Nat) = 0)) rfl b4 ?_
    refine s_ge rfl rfl rfl rfl (b' := decide (((a &&& (far n r)) : Nat) = 0)) rfl b4 ?_
    refine e_yield (own := []) (A := A1) (enc := (fun k => #[.int .i64 (((frs n r).getD k 0 : Nat) : Int), .int .i64 (((frs n r).getD k 0 + far n r : Nat) : Int)])) (k := ((Bit.firsts a (far n r)).length)) hY rfl ((ev2 rfl rfl).trans (frs_enc hfar (by omega) (by assumption))) (frs_lt hfar (by omega) (by assumption)) (by assumption) ?_ ?_
    ·intro A_5 hI_6
     refine s_gy (y_notK (b := true) (c := false) rfl rfl) rfl rfl rfl rfl (b' := decide (((a &&& (far n r)) : Nat) = 0)) rfl b4 ?_
     refine s_y (v := .bool false) (y_pickT (b := decide (((a &&& (far n r)) : Nat) = 0)) rfl b4 rfl) rfl ?_
     refine wpL_nil ?_
     refine thenS_n ?_
     refine wpS_cond_f rfl ?_
     refine wpS_skip ?_
     refine blockS_n ?_
     refine thenS_n ?_
     refine wpS_region ?_
     refine s_y (v := .int .i64 (((a + 1) : Nat) : Int)) (y_add (a := ((a : Nat) : Int)) (b := 1) h12_2 rfl (wI (by omega) (by omega) (by omega))) rfl ?_
     refine s_y (v := .int .i64 (((a + 1) : Nat) : Int)) (y_move rfl) rfl ?_
     refine wpL_nil ?_
     refine thenS_n ?_
     exact ⟨_, by omega, ⟨(a + 1), A_5, rfl, by omega, (by rw [firsts_len1 (by assumption)]; exact hI_6), rfl, h0_2, h4_2, h11_2, rfl, (Ent.refl _)⟩⟩
    ·intro A_7 hI_8
     refine s_gy (y_notK (b := false) (c := true) rfl rfl) rfl rfl rfl rfl (b' := decide (((a &&& (far n r)) : Nat) = 0)) rfl b4 ?_
     refine s_y (v := .bool true) (y_pickT (b := decide (((a &&& (far n r)) : Nat) = 0)) rfl b4 rfl) rfl ?_
     refine wpL_nil ?_
     refine thenS_n ?_
     refine wpS_cond_t rfl ?_
     refine wpS_ret ?_
     refine blockS_r ?_
     refine thenS_r ?_
     refine thenS_r ?_
     refine blockS_r ?_
     exact fin0 (.inr rfl) (Ent.refl _) Try.results152 (fun w' hs => ⟨rfl, A_7, hs, .inr ⟨_, frs_lt hfar (by omega) (by assumption), hI_8⟩⟩)
   ·
    have p4 := of_decide_eq_false b4
    have hbitb4 := mt (and_bit hfar).2 (by omega)
    refine s_no rfl rfl rfl rfl (b' := decide (((a &&& (far n r)) : Nat) = 0)) rfl b4 ?_
    refine s_no rfl rfl rfl rfl (b' := decide (((a &&& (far n r)) : Nat) = 0)) rfl b4 ?_
    refine s_no rfl rfl rfl rfl (b' := decide (((a &&& (far n r)) : Nat) = 0)) rfl b4 ?_
    refine s_no rfl rfl rfl rfl (b' := decide (((a &&& (far n r)) : Nat) = 0)) rfl b4 ?_
    refine s_no rfl rfl rfl rfl (b' := decide (((a &&& (far n r)) : Nat) = 0)) rfl b4 ?_
    refine s_no rfl rfl rfl rfl (b' := decide (((a &&& (far n r)) : Nat) = 0)) rfl b4 ?_
    refine s_no rfl rfl rfl rfl (b' := decide (((a &&& (far n r)) : Nat) = 0)) rfl b4 ?_
    refine s_y (v := .bool false) (y_pickF (b := decide (((a &&& (far n r)) : Nat) = 0)) rfl b4 rfl) rfl ?_
    refine wpL_nil ?_
    refine thenS_n ?_
    refine wpS_cond_f rfl ?_
    refine wpS_skip ?_
    refine blockS_n ?_
    refine thenS_n ?_
    refine wpS_region ?_
    refine s_y (v := .int .i64 (((a + 1) : Nat) : Int)) (y_add (a := ((a : Nat) : Int)) (b := 1) h12_2 rfl (wI (by omega) (by omega) (by omega))) rfl ?_
    refine s_y (v := .int .i64 (((a + 1) : Nat) : Int)) (y_move rfl) rfl ?_
    refine wpL_nil ?_
    refine thenS_n ?_
    exact ⟨_, by omega, ⟨(a + 1), A1, rfl, by omega, (by rw [firsts_len0 (by assumption)]; assumption), rfl, h0_2, h4_2, h11_2, rfl, (Ent.refl _)⟩⟩
  ·
   have p3 := of_decide_eq_false b3
   refine wpS_exit ?_
   refine thenS_x ?_
   refine thenS_x ?_
   refine blockS_h ?_
   exact fin0 (.inl rfl) (Ent.refl _) Try.results152 (fun w' hs => ⟨rfl, A1, hs, .inl (by rw [← frs_all hfar (a := a) (by omega)]; assumption)⟩)
theorem round_at (b2 b3 : Nat) (n r : Int) (n1 : -9223372036854775808 ≤ n) (n2 : n < 9223372036854775808) (r1 : -9223372036854775808 ≤ r) (r2 : r < 9223372036854775808) (w : World) (hb2 : w.cell? ⟨b2, 0, none⟩ = some (.int .i64 n)) (hb3 : w.cell? ⟨b3, 0, none⟩ = some (.int .i64 r)) :
    IterAt Try.prog 152 #[.pointer (some ⟨b2, 0, none⟩), .pointer (some ⟨b3, 0, none⟩)] (fun k => #[.int .i64 (((frs n r).getD k 0 : Nat) : Int), .int .i64 (((frs n r).getD k 0 + far n r : Nat) : Int)]) (frs n r).length (fun x => x = b2 ∨ x = b3) w :=
  ⟨fun w' hs => round_it b2 b3 n r n1 n2 r1 r2 w' (cell_old hb2 hs) (cell_old hb3 hs), by rintro b (rfl | rfl); exact cell_lt hb2; exact cell_lt hb3⟩
theorem blen_pow (j : Nat) : blen (2 ^ j) = j + 1 := blen_unique (Nat.le_refl _) (by rw [Nat.pow_succ]; have := Nat.two_pow_pos j; omega)
theorem stg_pow {n : Int} {j : Nat} (h : n = ((2 ^ j : Nat) : Int)) (hn : n ≤ 65536) : stg n = j := by
  subst h
  have hp := Nat.two_pow_pos j
  unfold stg
  rw [if_pos ⟨by omega, hn, by rw [Int.toNat_natCast, show (((2 ^ j : Nat) : Int) - 1).toNat = 2 ^ j - 1 by omega]; exact two_and j⟩, Int.toNat_natCast, blen_pow]
  omega
def frsZ (n r : Int) : List Int := (frs n r).map fun (a : Nat) => (a : Int)
theorem far_yes {n r : Int} (h : 0 < (stp n r).1) : far n r = 2 ^ ((stp n r).2 - 1) := by unfold far; rw [if_pos h]
theorem up_y {n r a : Int} (h1 : ¬ (stp n r).1 = 0) (h2 : ¬ a < 0) (h3 : ¬ n ≤ a) (h4 : ¬ a.toNat / 2 ^ ((stp n r).2 - 1) % 2 ≠ 0) : decide (a.toNat / 2 ^ (stp n r).1 % 2 = 0) = up n r a := by
  unfold up
  rw [decide_eq_true (show 0 < (stp n r).1 by omega), decide_eq_true (show 0 ≤ a by omega), decide_eq_true (show a < n by omega), decide_eq_true (show a.toNat / 2 ^ ((stp n r).2 - 1) % 2 = 0 by omega)]
  simp
set_option maxHeartbeats 1000000
def frsY (n r : Int) : List Int := (frs n r).map fun (a : Nat) => ((a + far n r : Nat) : Int)
theorem frs_mem {n r : Int} {a : Nat} (h : a ∈ frs n r) : 0 < far n r ∧ (a : Int) < n ∧ a / far n r % 2 = 0 ∧ ((a + far n r : Nat) : Int) ≤ 65536 * 2 := by
  unfold frs at h
  split at h
  · cases h
  · rename_i hf
    have hp : 0 < far n r := by omega
    unfold Bit.firsts at h
    rw [List.mem_filter, List.mem_range] at h
    have h2 := far_n hp
    have h3 := far_le n r
    exact ⟨hp, by omega, of_decide_eq_true h.2, by omega⟩
def stK (K r : Nat) : Nat × Nat := stp ((2 ^ K : Nat) : Int) (r : Int)
theorem stgN_pow {K : Nat} (h : K ≤ 16) : stgN ((2 ^ K : Nat) : Int) = K := by
  have := stg_pow (n := ((2 ^ K : Nat) : Int)) (j := K) rfl (by have := Nat.pow_le_pow_right (n := 2) (by decide) h; omega)
  have h2 := stgN_eq ((2 ^ K : Nat) : Int)
  omega
theorem stpA_at {K s j : Nat} (hs : s < K) (hj : j ≤ s) : ∀ d u, s - u = d → u ≤ s → stpA K (u + 1) (Bit.tri s + j - Bit.tri u) = (s + 1, s + 1 - j)
  | 0, u, hd, hu => by
    obtain rfl : u = s := by omega
    rw [Nat.add_sub_cancel_left, stpA_hit (by omega) (by omega)]
  | d + 1, u, hd, hu => by
    have h1 := Bit.tri_succ u
    have h2 : Bit.tri (u + 1) ≤ Bit.tri s := Bit.tri_mono (by omega)
    rw [stpA_next (by omega) (by omega)]
    have e : Bit.tri s + j - Bit.tri u - (u + 1) = Bit.tri s + j - Bit.tri (u + 1) := by omega
    rw [e]
    exact stpA_at hs hj d (u + 1) (by omega) (by omega)
theorem stK_at {K : Nat} (hK : K ≤ 16) (s j : Nat) (hs : s < K) (hj : j ≤ s) : stK K (Bit.tri s + j) = (s + 1, s + 1 - j) := by
  unfold stK
  rw [stp_at (by omega), stgN_pow hK, Int.toNat_natCast]
  exact stpA_at hs hj s 0 (by omega) (by omega)
theorem rnd_tri {K : Nat} (h : K ≤ 16) : rnd ((2 ^ K : Nat) : Int) = Bit.tri K := rnd_pow K (by omega)
theorem rnd21 {K : Nat} (h : K < 7) : rnd ((2 ^ K : Nat) : Int) ≤ 21 := by
  rw [rnd_tri (by omega)]
  have h2 := Bit.tri_mono (show K ≤ 6 by omega)
  have h3 : Bit.tri 6 = 21 := by decide
  omega
theorem stK_pos {K r : Nat} (h : K ≤ 16) (hr : r < rnd ((2 ^ K : Nat) : Int)) : 0 < (stK K r).1 := by
  rw [rnd_tri h] at hr
  obtain ⟨s, j, h1, h2, rfl⟩ := Bit.tri_find K r hr
  rw [stK_at h s j h1 h2]
  omega
theorem farK {K r : Nat} (h : K ≤ 16) (hr : r < rnd ((2 ^ K : Nat) : Int)) : far ((2 ^ K : Nat) : Int) (r : Int) = 2 ^ ((stK K r).2 - 1) := far_yes (stK_pos h hr)
theorem frsK {K r : Nat} (h : K ≤ 16) (hr : r < rnd ((2 ^ K : Nat) : Int)) : frs ((2 ^ K : Nat) : Int) (r : Int) = Bit.firsts (2 ^ K) (2 ^ ((stK K r).2 - 1)) := by
  unfold frs
  have := Nat.two_pow_pos ((stK K r).2 - 1)
  rw [farK h hr, if_neg (by omega)]
  rfl
structure PairK (K r i a : Nat) : Prop where
  z : (frsZ ((2 ^ K : Nat) : Int) (r : Int)).getD i default = (a : Int)
  y : (frsY ((2 ^ K : Nat) : Int) (r : Int)).getD i default = ((a + 2 ^ ((stK K r).2 - 1) : Nat) : Int)
  g : (frs ((2 ^ K : Nat) : Int) (r : Int)).getD i 0 = a
  lt : a + 2 ^ ((stK K r).2 - 1) < 2 ^ K
  u : up ((2 ^ K : Nat) : Int) (r : Int) (a : Int) = decide (a / 2 ^ (stK K r).1 % 2 = 0)
theorem pairK {K r i : Nat} (h : K ≤ 16) (hr : r < rnd ((2 ^ K : Nat) : Int)) (hi : i < (frs ((2 ^ K : Nat) : Int) (r : Int)).length) : ∃ a, PairK K r i a := by
  have hm : (frs ((2 ^ K : Nat) : Int) (r : Int))[i] ∈ frs ((2 ^ K : Nat) : Int) (r : Int) := List.getElem_mem hi
  generalize ha : (frs ((2 ^ K : Nat) : Int) (r : Int))[i] = a at hm
  have hf := frs_mem hm
  have hz := farK h hr
  have hp := stK_pos h hr
  have hb := stp_bd ((2 ^ K : Nat) : Int) (r : Int)
  have hs : (stK K r).1 ≤ K := by
    have h1 := rnd_tri h
    rw [h1] at hr
    obtain ⟨s, j, h1, h2, rfl⟩ := Bit.tri_find K r hr
    rw [stK_at h s j h1 h2]
    show s + 1 ≤ K
    omega
  have hbb : (stK K r).2 ≤ (stK K r).1 ∧ (0 < (stK K r).1 → 1 ≤ (stK K r).2) := ⟨hb.2.1, hb.2.2⟩
  rw [hz] at hf
  have hlt := Bit.partner_lt (K := K) (t := (stK K r).2) (a := a) (by omega) (by omega) (by omega) hf.2.2.1
  have he : (frs ((2 ^ K : Nat) : Int) (r : Int))[i]? = some a := by rw [List.getElem?_eq_getElem hi, ha]
  refine ⟨a, ?_, ?_, ?_, hlt, ?_⟩
  · unfold frsZ; rw [List.getD_eq_getElem?_getD, List.getElem?_map, he]; rfl
  · rw [← hz]
    unfold frsY; rw [List.getD_eq_getElem?_getD, List.getElem?_map, he]; rfl
  · rw [List.getD_eq_getElem?_getD, he]; rfl
  · rw [← up_y (n := ((2 ^ K : Nat) : Int)) (r := (r : Int)) (a := (a : Int)) (by show ¬ (stK K r).1 = 0; omega) (by omega) (by omega) (by rw [Int.toNat_natCast]; show ¬ a / 2 ^ ((stK K r).2 - 1) % 2 ≠ 0; simp [hf.2.2.1])]
    rfl
end Go.Proofs.Ytldkjjnjdjfipaa
namespace Go.Proofs.Ytldkjjnjdjfipaa
open Go Go.RowKit
set_option linter.unusedVariables false
set_option linter.unusedSimpArgs false
def famF (hd : List SlH) (bs : List (List Rec)) : List Nat := (List.range bs.length).flatMap fun k => if (bs.getD k []).length = 0 then [] else [aB (hd.getD k default).a]
theorem mem_famF {hd : List SlH} {bs : List (List Rec)} {b : Nat} : b ∈ famF hd bs ↔ ∃ k, k < bs.length ∧ ¬ (bs.getD k []).length = 0 ∧ b = aB (hd.getD k default).a := by
  unfold famF
  rw [List.mem_flatMap]
  constructor
  · rintro ⟨k, hk, hb⟩
    split at hb
    · cases hb
    · exact ⟨k, List.mem_range.1 hk, by assumption, List.mem_singleton.1 hb⟩
  · rintro ⟨k, hk, h1, h2⟩
    exact ⟨k, List.mem_range.2 hk, by rw [if_neg h1]; exact List.mem_singleton.2 h2⟩
theorem flR_len (l : List Rec) : (l.flatMap recV).length = l.length * 4 := fl_len recV_len l
def fam (hd : List SlH) (bs : List (List Rec)) : Res :=
  ⟨famF hd bs, fun w => ∀ k, k < bs.length → Rds w (hd.getD k default).a ((bs.getD k []).flatMap recV), fun w w' h hw k hk => rds_loc (hw k hk) fun hl => h _ (mem_famF.2 ⟨k, hk, by rw [flR_len] at hl; omega, rfl⟩)⟩
section
variable {w0 : World} {D : List Nat} {L M N : List Res} {hd : List SlH} {bs : List (List Rec)}
theorem fam_rd (hp : Pick L (fam hd bs) M) {k : Nat} (hk : k < bs.length) : ∀ w, SH w0 D L w → Rds w (hd.getD k default).a ((bs.getD k []).flatMap recV) := fun w hs => hs.get hp k hk
theorem fam_nil (w : World) (h : SH w0 D L w) : SH w0 D (fam [] [] :: L) w := by
  refine ⟨h.os, h.tape, h.output, h.size, h.old, ?_, ?_, ?_⟩
  · intro p hp
    rcases List.mem_cons.1 hp with rfl | hp
    · intro k hk; exact absurd hk (by simp)
    · exact h.ok p hp
  · intro p hp b hb
    rcases List.mem_cons.1 hp with rfl | hp
    · exact absurd hb (by simp [fam, famF])
    · exact h.own p hp b hb
  · refine List.pairwise_cons.2 ⟨fun x hx b hb => ?_, h.disj⟩
    exact absurd hb (by simp [fam, famF])
theorem getD_app {α : Type} [Inhabited α] {l : List α} {x d : α} {k : Nat} : (l ++ [x]).getD k d = if k < l.length then l.getD k d else if k = l.length then x else d := by
  rw [List.getD_eq_getElem?_getD, List.getD_eq_getElem?_getD]
  by_cases h : k < l.length
  · rw [if_pos h, List.getElem?_append_left h]
  · rw [if_neg h, List.getElem?_append_right (by omega)]
    by_cases h2 : k = l.length
    · rw [if_pos h2, h2, Nat.sub_self]; rfl
    · rw [if_neg h2, List.getElem?_eq_none (by simp; omega)]; rfl
theorem fam_push (h0 : SlH) {c n : Nat} {d : List Rec} (hp : Pick L (osl h0.a c n 4 23 (d.flatMap recV)) M) (hq : Pick M (fam hd bs) N) (hl : hd.length = bs.length) : ∀ w, SH w0 D L w → SH w0 D (fam (hd ++ [h0]) (bs ++ [d]) :: N) w := fun w hs => by
  have h1 := hs.pick hp
  have h2 : SH w0 D (fam hd bs :: osl h0.a c n 4 23 (d.flatMap recV) :: N) w := (h1.perm ((hq.perm.cons _).trans (List.Perm.swap _ _ _)))
  have k1 := h2.ok _ List.mem_cons_self
  have k2 := h2.ok _ (List.mem_cons_of_mem _ List.mem_cons_self)
  have hget : ∀ k, k < (bs ++ [d]).length → (k < bs.length ∧ (bs ++ [d]).getD k [] = bs.getD k [] ∧ (hd ++ [h0]).getD k default = hd.getD k default) ∨ ((bs ++ [d]).getD k [] = d ∧ (hd ++ [h0]).getD k default = h0) := by
    intro k hk
    rw [List.length_append, List.length_singleton] at hk
    rw [getD_app, getD_app]
    by_cases h : k < bs.length
    · exact .inl ⟨h, by rw [if_pos h], by rw [if_pos (by omega)]⟩
    · exact .inr ⟨by rw [if_neg h, if_pos (by omega)], by rw [if_neg (by omega), if_pos (by omega)]⟩
  refine SH.join h2 ?_ ?_
  · intro b hb
    obtain ⟨k, hk, h3, h4⟩ := mem_famF.1 hb
    rcases hget k hk with ⟨e0, e1, e2⟩ | ⟨e1, e2⟩
    · rw [e1] at h3; rw [e2] at h4
      exact .inl (mem_famF.2 ⟨k, e0, h3, h4⟩)
    · rw [e1] at h3; rw [e2] at h4
      subst h4
      exact .inr (osl_blk k2 (by rw [flR_len]; omega))
  · intro k hk
    rcases hget k hk with ⟨e0, e1, e2⟩ | ⟨e1, e2⟩
    · rw [e1, e2]; exact k1 k e0
    · rw [e1, e2]; exact osl_rds k2
theorem getD_set {α : Type} {l : List α} {x d : α} {i k : Nat} (hi : i < l.length) : (l.set i x).getD k d = if k = i then x else l.getD k d := by
  rw [List.getD_eq_getElem?_getD, List.getD_eq_getElem?_getD, List.getElem?_set]
  by_cases h : k = i
  · subst h; simp [hi]
  · rw [if_neg (fun e => h e.symm), if_neg h]
theorem fam_two {x : Option Addr} {c n : Nat} {T : List Rec} (hp : Pick L (osl x c n 4 23 (T.flatMap recV)) M) (hq : Pick M (fam hd bs) N) (hl : hd.length = bs.length) {h1 h2 : SlH} {d1 d2 : List Rec} {i j : Nat} (hi : i < bs.length) (hj : j < bs.length)
    (hr : ∀ w, Rds w x (T.flatMap recV) → Rds w h1.a (d1.flatMap recV) ∧ Rds w h2.a (d2.flatMap recV)) (b1 : aB h1.a = aB x) (b2 : aB h2.a = aB x) (t1 : d1.length ≤ T.length) (t2 : d2.length ≤ T.length) :
    ∀ w, SH w0 D L w → SH w0 D (fam ((hd.set i h1).set j h2) ((bs.set i d1).set j d2) :: N) w := fun w hs => by
  have g1 := hs.pick hp
  have g2 : SH w0 D (fam hd bs :: osl x c n 4 23 (T.flatMap recV) :: N) w := (g1.perm ((hq.perm.cons _).trans (List.Perm.swap _ _ _)))
  have k1 := g2.ok _ List.mem_cons_self
  have k2 := g2.ok _ (List.mem_cons_of_mem _ List.mem_cons_self)
  have hR := hr w (osl_rds k2)
  have hget : ∀ k, k < ((bs.set i d1).set j d2).length → (k < bs.length ∧ ((bs.set i d1).set j d2).getD k [] = bs.getD k [] ∧ ((hd.set i h1).set j h2).getD k default = hd.getD k default) ∨ (((bs.set i d1).set j d2).getD k [] = d1 ∧ ((hd.set i h1).set j h2).getD k default = h1) ∨ (((bs.set i d1).set j d2).getD k [] = d2 ∧ ((hd.set i h1).set j h2).getD k default = h2) := by
    intro k hk
    rw [List.length_set, List.length_set] at hk
    rw [getD_set (by rw [List.length_set]; exact hj), getD_set hi, getD_set (by rw [List.length_set]; omega), getD_set (by omega)]
    by_cases e1 : k = j
    · exact .inr (.inr ⟨by rw [if_pos e1], by rw [if_pos e1]⟩)
    · by_cases e2 : k = i
      · exact .inr (.inl ⟨by rw [if_neg e1, if_pos e2], by rw [if_neg e1, if_pos e2]⟩)
      · exact .inl ⟨hk, by rw [if_neg e1, if_neg e2], by rw [if_neg e1, if_neg e2]⟩
  refine SH.join g2 ?_ ?_
  · intro b hb
    obtain ⟨k, hk, h3, h4⟩ := mem_famF.1 hb
    rcases hget k hk with ⟨e0, e1, e2⟩ | ⟨e1, e2⟩ | ⟨e1, e2⟩
    · rw [e1] at h3; rw [e2] at h4
      exact .inl (mem_famF.2 ⟨k, e0, h3, h4⟩)
    · rw [e1] at h3; rw [e2, b1] at h4
      subst h4
      exact .inr (osl_blk k2 (by rw [flR_len]; omega))
    · rw [e1] at h3; rw [e2, b2] at h4
      subst h4
      exact .inr (osl_blk k2 (by rw [flR_len]; omega))
  · intro k hk
    rcases hget k hk with ⟨e0, e1, e2⟩ | ⟨e1, e2⟩ | ⟨e1, e2⟩
    · rw [e1, e2]; exact k1 k e0
    · rw [e1, e2]; exact hR.1
    · rw [e1, e2]; exact hR.2
theorem spl_lo {w : World} {x : Option Addr} {T : List Rec} (z : Nat) (h : Rds w x (T.flatMap recV)) : Rds w x ((T.take z).flatMap recV) := by
  rw [← fl_take recV_len]
  exact h.take _
theorem spl_hi {w : World} {x : Option Addr} {T : List Rec} {c : Nat} (z : Nat) (hc : T.length ≤ c) (h : Rds w x (T.flatMap recV)) : Rds w (subA x c z 4) ((T.drop z).flatMap recV) := by
  have h1 := h.sub (cap := c) (lo := z) (hi := T.length) (sz := 4) hc
  rw [fl_drop recV_len, List.take_of_length_le (by rw [fl_len recV_len, List.length_drop]; exact Nat.le_refl _)] at h1
  exact h1
theorem fam_up {x : Option Addr} {c n : Nat} {T : List Rec} (hp : Pick L (osl x c n 4 23 (T.flatMap recV)) M) (hq : Pick M (fam hd bs) N) (hl : hd.length = bs.length) (hc : T.length ≤ c) {i j z z1 z2 z3 z4 : Nat} (hi : i < bs.length) (hj : j < bs.length) :
    ∀ w, SH w0 D L w → SH w0 D (fam ((hd.set i ⟨x, z1, z2⟩).set j ⟨subA x c z 4, z3, z4⟩) ((bs.set i (T.take z)).set j (T.drop z)) :: N) w :=
  fam_two hp hq hl hi hj (fun w h => ⟨spl_lo z h, spl_hi z hc h⟩) rfl (subA_aB _ _ _ _) (by rw [List.length_take]; omega) (by rw [List.length_drop]; omega)
theorem fam_dn {x : Option Addr} {c n : Nat} {T : List Rec} (hp : Pick L (osl x c n 4 23 (T.flatMap recV)) M) (hq : Pick M (fam hd bs) N) (hl : hd.length = bs.length) (hc : T.length ≤ c) {i j z z1 z2 z3 z4 : Nat} (hi : i < bs.length) (hj : j < bs.length) :
    ∀ w, SH w0 D L w → SH w0 D (fam ((hd.set i ⟨subA x c z 4, z3, z4⟩).set j ⟨x, z1, z2⟩) ((bs.set i (T.drop z)).set j (T.take z)) :: N) w :=
  fam_two hp hq hl hi hj (fun w h => ⟨spl_hi z hc h, spl_lo z h⟩) (subA_aB _ _ _ _) rfl (by rw [List.length_drop]; omega) (by rw [List.length_take]; omega)
end
end Go.Proofs.Ytldkjjnjdjfipaa
namespace Go.Proofs.Ytldkjjnjdjfipaa
open Go Go.RowKit
set_option linter.unusedVariables false
set_option linter.unusedSimpArgs false
theorem binv_len {sq : Bool} {n z k : Nat} {bs : List (List Rec)} (h : BInv sq n z bs) (hk : k < n) : (bs.getD k []).length = z := (h.2 _ (getD_mem (by rw [h.1]; exact hk))).1
def blkK (sq : Bool) (K r : Nat) (X : List (List Rec)) (a : Nat) : List (List Rec) := blkStep sq (decide (a / 2 ^ (stK K r).1 % 2 = 0)) (2 ^ ((stK K r).2 - 1)) X a
def bnet (sq : Bool) (K : Nat) (B : List (List Rec)) (r : Nat) : List (List Rec) := Bit.netTo (2 ^ K) (fun r => 2 ^ ((stK K r).2 - 1)) (blkK sq K) B r
def bcmp (sq : Bool) (K r : Nat) (X : List (List Rec)) (i : Nat) : List (List Rec) := ((frs ((2 ^ K : Nat) : Int) (r : Int)).take i).foldl (blkK sq K r) X
theorem bcmp_all {sq : Bool} {K r i : Nat} {x : List (List Rec)} (h : K ≤ 16) (hr : r < rnd ((2 ^ K : Nat) : Int)) (hi : (frs ((2 ^ K : Nat) : Int) (r : Int)).length ≤ i) : bcmp sq K r (bnet sq K x r) i = bnet sq K x (r + 1) := by
  unfold bcmp
  rw [List.take_of_length_le hi, frsK h hr]
  rfl
theorem bcmp_succ {sq : Bool} {K r i : Nat} {X : List (List Rec)} (hi : i < (frs ((2 ^ K : Nat) : Int) (r : Int)).length) : bcmp sq K r X (i + 1) = blkK sq K r (bcmp sq K r X i) ((frs ((2 ^ K : Nat) : Int) (r : Int)).getD i 0) := by
  unfold bcmp
  rw [List.take_succ_eq_append_getElem hi, List.foldl_append, List.getD_eq_getElem?_getD, List.getElem?_eq_getElem hi]
  rfl
theorem bst_up {sq : Bool} {K r i a z : Nat} {X Y : List (List Rec)} (hY : Y = bcmp sq K r X i) (hi : i < (frs ((2 ^ K : Nat) : Int) (r : Int)).length) (p : PairK K r i a) (hz : (Y.getD a []).length = z) (hu : up ((2 ^ K : Nat) : Int) (r : Int) (a : Int) = true) :
    (Y.set a ((mgd sq (Y.getD a []) (Y.getD (a + 2 ^ ((stK K r).2 - 1)) [])).take z)).set (a + 2 ^ ((stK K r).2 - 1)) ((mgd sq (Y.getD a []) (Y.getD (a + 2 ^ ((stK K r).2 - 1)) [])).drop z) = bcmp sq K r X (i + 1) := by
  rw [bcmp_succ hi, p.g, ← hY]
  unfold blkK blkStep
  rw [← p.u, hu]
  subst hz
  simp
theorem bst_dn {sq : Bool} {K r i a z : Nat} {X Y : List (List Rec)} (hY : Y = bcmp sq K r X i) (hi : i < (frs ((2 ^ K : Nat) : Int) (r : Int)).length) (p : PairK K r i a) (hz : (Y.getD a []).length = z) (hu : up ((2 ^ K : Nat) : Int) (r : Int) (a : Int) = false) :
    (Y.set a ((mgd sq (Y.getD a []) (Y.getD (a + 2 ^ ((stK K r).2 - 1)) [])).drop z)).set (a + 2 ^ ((stK K r).2 - 1)) ((mgd sq (Y.getD a []) (Y.getD (a + 2 ^ ((stK K r).2 - 1)) [])).take z) = bcmp sq K r X (i + 1) := by
  rw [bcmp_succ hi, p.g, ← hY]
  unfold blkK blkStep
  rw [← p.u, hu]
  subst hz
  simp
theorem bst_inv {sq : Bool} {K r i a z : Nat} {X Y : List (List Rec)} (hY : Y = bcmp sq K r X i) (hB : BInv sq (2 ^ K) z Y) (hi : i < (frs ((2 ^ K : Nat) : Int) (r : Int)).length) (p : PairK K r i a) : BInv sq (2 ^ K) z (bcmp sq K r X (i + 1)) := by
  rw [bcmp_succ hi, p.g, ← hY]
  exact (blk_step hB (Nat.two_pow_pos _) p.lt).1
theorem binv_eq {sq : Bool} {n z : Nat} {Y Z : List (List Rec)} (h : Y = Z) (hz : BInv sq n z Z) : BInv sq n z Y := h ▸ hz
theorem bnet_srt {sq : Bool} {K z r : Nat} {B : List (List Rec)} (hK : K ≤ 16) (hB : BInv sq (2 ^ K) z B) (hr : r = rnd ((2 ^ K : Nat) : Int)) : Srt sq (bnet sq K B r).flatten := by
  rw [hr, rnd_tri hK]
  exact (net_blocks (st := stK K) (stK_at hK) hB).2
theorem hn_set {hd : List SlH} {N z i j : Nat} {h1 h2 : SlH} (hl : hd.length = N) (hi : i < N) (hj : j < N) (h : ∀ k, k < N → (hd.getD k default).n = z) (e1 : h1.n = z) (e2 : h2.n = z) : ∀ k, k < N → (((hd.set i h1).set j h2).getD k default).n = z := by
  intro k hk
  rw [getD_set (by rw [List.length_set]; omega), getD_set (by omega)]
  split
  · exact e2
  · split
    · exact e1
    · exact h k hk
theorem hn_app {hd : List SlH} {N z : Nat} {h1 : SlH} (hl : hd.length = N) (h : ∀ k, k < N → (hd.getD k default).n = z) (e1 : h1.n = z) : ∀ k, k < N + 1 → ((hd ++ [h1]).getD k default).n = z := by
  intro k hk
  rw [getD_app]
  split
  · exact h k (by omega)
  · rw [if_pos (by omega)]; exact e1
end Go.Proofs.Ytldkjjnjdjfipaa
