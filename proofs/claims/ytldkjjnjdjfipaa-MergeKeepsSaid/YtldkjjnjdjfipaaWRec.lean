/- The records, walked. -/
import Derived.Test.YtldkjjnjdjfipaaWCt
import Derived.Test.YtldkjjnjdjfipaaEq
namespace Go.Proofs.Ytldkjjnjdjfipaa
open Go Go.RowKit
set_option linter.unusedVariables false
set_option linter.unusedSimpArgs false
set_option maxRecDepth 10000

def pickR (c : UInt64) (a b : Rec) : Rec := if c &&& 1 = 1 then a else b
theorem pickR_eq (c : UInt64) (a b : Rec) : (.agg #[.bool (decide ((if c &&& 1 = 1 then b64 a.dead else b64 b.dead) = 1)), .int .i64 (if c &&& 1 = 1 then a.key else b.key).toInt, .int .i64 (if c &&& 1 = 1 then a.value else b.value).toInt, .int .i64 (if c &&& 1 = 1 then a.seq else b.seq).toInt] : Value) =
    .agg #[.bool (pickR c a b).dead, .int .i64 (pickR c a b).key.toInt, .int .i64 (pickR c a b).value.toInt, .int .i64 (pickR c a b).seq.toInt] := by
  unfold pickR
  split <;> simp [b64_one]

theorem ahead_c (a b : Rec) (w : World) : Pure Try.prog 43 #[.agg #[.bool (a.dead), .int .i64 (a.key.toInt), .int .i64 (a.value.toInt), .int .i64 (a.seq.toInt)], .agg #[.bool (b.dead), .int .i64 (b.key.toInt), .int .i64 (b.value.toInt), .int .i64 (b.seq.toInt)]] w (.int .u64 ((b64 (ahead a b)).toNat)) := by
  refine calls_S (n := 23) (σ0 := (upd (upd fr0 0 (.agg #[.bool (a.dead), .int .i64 (a.key.toInt), .int .i64 (a.value.toInt), .int .i64 (a.seq.toInt)])) 1 (.agg #[.bool (b.dead), .int .i64 (b.key.toInt), .int .i64 (b.value.toInt), .int .i64 (b.seq.toInt)]))) (D := []) (A := []) Try.func43 rfl Try.ntmps43 rfl (a2_fr _ _) (SH.start w) ?_
  refine wpS_seq ?_
  refine wpS_region ?_
  refine s_e rfl ?_
  refine e_box (v := .agg #[.bool (a.dead), .int .i64 (a.key.toInt), .int .i64 (a.value.toInt), .int .i64 (a.seq.toInt)]) (l := [.bool (a.dead), .int .i64 (a.key.toInt), .int .i64 (a.value.toInt), .int .i64 (a.seq.toInt)]) rfl rfl ?_
  intro b_1
  refine s_e rfl ?_
  refine e_box (v := .agg #[.bool (b.dead), .int .i64 (b.key.toInt), .int .i64 (b.value.toInt), .int .i64 (b.seq.toInt)]) (l := [.bool (b.dead), .int .i64 (b.key.toInt), .int .i64 (b.value.toInt), .int .i64 (b.seq.toInt)]) rfl rfl ?_
  intro b_2
  refine s_y (v := .int .u64 0) (y_assign rfl) rfl ?_
  refine wpL_nil ?_
  refine thenS_n ?_
  refine wpS_seq ?_
  refine wpS_lex (by kernel_rfl) (by kernel_rfl) ?_
  refine x_y (v := .pointer (some ⟨b_1, 0, none⟩)) (y_fieldAddr (o' := 0) rfl Try.underlying23 rfl Try.sizeOf4 (by decide) rfl) rfl ?_
  refine x_y (v := .bool (a.dead)) (y_load1 rfl Try.isAgg4 (own1 (.t .h) rfl)) rfl ?_
  refine x_y (v := .int .u64 ((b64 a.dead).toNat)) (y_call (args := #[.bool (a.dead)]) (v := .int .u64 ((b64 a.dead).toNat)) Try.call142 (ev1 rfl) (fun w hs => bit_c a.dead w)) rfl ?_
  refine x_y (v := .pointer (some ⟨b_2, 0, none⟩)) (y_fieldAddr (o' := 0) rfl Try.underlying23 rfl Try.sizeOf4 (by decide) rfl) rfl ?_
  refine x_y (v := .bool (b.dead)) (y_load1 rfl Try.isAgg4 (own1 .h rfl)) rfl ?_
  refine x_y (v := .int .u64 ((b64 b.dead).toNat)) (y_call (args := #[.bool (b.dead)]) (v := .int .u64 ((b64 b.dead).toNat)) Try.call142 (ev1 rfl) (fun w hs => bit_c b.dead w)) rfl ?_
  refine x_y (v := .int .u64 ((b64 a.dead).toNat)) (y_assign rfl) rfl ?_
  refine x_y (v := .int .u64 ((b64 b.dead).toNat)) (y_assign rfl) rfl ?_
  refine x_nil ?_
  refine thenS_n ?_
  refine wpS_seq ?_
  refine wpS_region ?_
  refine s_y (v := .int .u64 ((b64 a.dead).toNat)) (y_move rfl) rfl ?_
  refine s_y (v := .int .u64 ((((b64 a.dead) ^^^ 1)).toNat)) (y_xor (a := (b64 a.dead).toNat) (b := 1) (c := (((b64 a.dead) ^^^ 1)).toNat) rfl rfl (u_xorL _ 1 (by decide))) rfl ?_
  refine s_y (v := .int .u64 ((b64 b.dead).toNat)) (y_move rfl) rfl ?_
  refine s_y (v := .pointer (some ⟨b_1, 1, none⟩)) (y_fieldAddr (o' := 1) rfl Try.underlying23 rfl Try.sizeOf2 (by decide) rfl) rfl ?_
  refine s_y (v := .int .i64 (a.key.toInt)) (y_load1 rfl Try.isAgg2 (own1 (.t .h) rfl)) rfl ?_
  refine s_y (v := .pointer (some ⟨b_2, 1, none⟩)) (y_fieldAddr (o' := 1) rfl Try.underlying23 rfl Try.sizeOf2 (by decide) rfl) rfl ?_
  refine s_y (v := .int .i64 (b.key.toInt)) (y_load1 rfl Try.isAgg2 (own1 .h rfl)) rfl ?_
  refine s_y (v := .int .u64 ((b64 (decide (a.key < b.key))).toNat)) (y_call (args := #[.int .i64 (a.key.toInt), .int .i64 (b.key.toInt)]) (v := .int .u64 ((b64 (decide (a.key < b.key))).toNat)) Try.call144 (ev2 rfl rfl) (fun w hs => below_c a.key b.key w)) rfl ?_
  refine s_y (v := .int .u64 ((((b64 b.dead) ||| (b64 (decide (a.key < b.key))))).toNat)) (y_or (a := (b64 b.dead).toNat) (b := (b64 (decide (a.key < b.key))).toNat) (c := (((b64 b.dead) ||| (b64 (decide (a.key < b.key))))).toNat) rfl rfl (u_or _ _)) rfl ?_
  refine s_y (v := .int .u64 (((((b64 a.dead) ^^^ 1) &&& ((b64 b.dead) ||| (b64 (decide (a.key < b.key)))))).toNat)) (y_and (a := (((b64 a.dead) ^^^ 1)).toNat) (b := (((b64 b.dead) ||| (b64 (decide (a.key < b.key))))).toNat) (c := ((((b64 a.dead) ^^^ 1) &&& ((b64 b.dead) ||| (b64 (decide (a.key < b.key)))))).toNat) rfl rfl (u_and _ _)) rfl ?_
  refine s_y (v := .int .u64 (((((b64 a.dead) ^^^ 1) &&& ((b64 b.dead) ||| (b64 (decide (a.key < b.key)))))).toNat)) (y_assign rfl) rfl ?_
  refine wpL_nil ?_
  refine thenS_n ?_
  refine wpS_ret ?_
  refine fin1 (v := .int .u64 (((((b64 a.dead) ^^^ 1) &&& ((b64 b.dead) ||| (b64 (decide (a.key < b.key)))))).toNat)) (.inr rfl) .nil Try.results43 rfl ?_
  exact fun w' hs => ⟨(by rw [ahead_bits]), hs⟩

theorem before_c (a b : Rec) (w : World) : Pure Try.prog 42 #[.agg #[.bool (a.dead), .int .i64 (a.key.toInt), .int .i64 (a.value.toInt), .int .i64 (a.seq.toInt)], .agg #[.bool (b.dead), .int .i64 (b.key.toInt), .int .i64 (b.value.toInt), .int .i64 (b.seq.toInt)]] w (.int .u64 ((b64 (before a b)).toNat)) := by
  refine calls_S (n := 36) (σ0 := (upd (upd fr0 0 (.agg #[.bool (a.dead), .int .i64 (a.key.toInt), .int .i64 (a.value.toInt), .int .i64 (a.seq.toInt)])) 1 (.agg #[.bool (b.dead), .int .i64 (b.key.toInt), .int .i64 (b.value.toInt), .int .i64 (b.seq.toInt)]))) (D := []) (A := []) Try.func42 rfl Try.ntmps42 rfl (a2_fr _ _) (SH.start w) ?_
  refine wpS_seq ?_
  refine wpS_region ?_
  refine s_e rfl ?_
  refine e_box (v := .agg #[.bool (a.dead), .int .i64 (a.key.toInt), .int .i64 (a.value.toInt), .int .i64 (a.seq.toInt)]) (l := [.bool (a.dead), .int .i64 (a.key.toInt), .int .i64 (a.value.toInt), .int .i64 (a.seq.toInt)]) rfl rfl ?_
  intro b_1
  refine s_e rfl ?_
  refine e_box (v := .agg #[.bool (b.dead), .int .i64 (b.key.toInt), .int .i64 (b.value.toInt), .int .i64 (b.seq.toInt)]) (l := [.bool (b.dead), .int .i64 (b.key.toInt), .int .i64 (b.value.toInt), .int .i64 (b.seq.toInt)]) rfl rfl ?_
  intro b_2
  refine s_y (v := .int .u64 0) (y_assign rfl) rfl ?_
  refine wpL_nil ?_
  refine thenS_n ?_
  refine wpS_seq ?_
  refine wpS_lex (by kernel_rfl) (by kernel_rfl) ?_
  refine x_y (v := .pointer (some ⟨b_1, 0, none⟩)) (y_fieldAddr (o' := 0) rfl Try.underlying23 rfl Try.sizeOf4 (by decide) rfl) rfl ?_
  refine x_y (v := .bool (a.dead)) (y_load1 rfl Try.isAgg4 (own1 (.t .h) rfl)) rfl ?_
  refine x_y (v := .int .u64 ((b64 a.dead).toNat)) (y_call (args := #[.bool (a.dead)]) (v := .int .u64 ((b64 a.dead).toNat)) Try.call142 (ev1 rfl) (fun w hs => bit_c a.dead w)) rfl ?_
  refine x_y (v := .int .u64 ((((b64 a.dead) ^^^ 1)).toNat)) (y_xor (a := (b64 a.dead).toNat) (b := 1) (c := (((b64 a.dead) ^^^ 1)).toNat) rfl rfl (u_xorL _ 1 (by decide))) rfl ?_
  refine x_y (v := .pointer (some ⟨b_2, 0, none⟩)) (y_fieldAddr (o' := 0) rfl Try.underlying23 rfl Try.sizeOf4 (by decide) rfl) rfl ?_
  refine x_y (v := .bool (b.dead)) (y_load1 rfl Try.isAgg4 (own1 .h rfl)) rfl ?_
  refine x_y (v := .int .u64 ((b64 b.dead).toNat)) (y_call (args := #[.bool (b.dead)]) (v := .int .u64 ((b64 b.dead).toNat)) Try.call142 (ev1 rfl) (fun w hs => bit_c b.dead w)) rfl ?_
  refine x_y (v := .int .u64 ((((b64 b.dead) ^^^ 1)).toNat)) (y_xor (a := (b64 b.dead).toNat) (b := 1) (c := (((b64 b.dead) ^^^ 1)).toNat) rfl rfl (u_xorL _ 1 (by decide))) rfl ?_
  refine x_y (v := .int .u64 (((((b64 a.dead) ^^^ 1) &&& ((b64 b.dead) ^^^ 1))).toNat)) (y_and (a := (((b64 a.dead) ^^^ 1)).toNat) (b := (((b64 b.dead) ^^^ 1)).toNat) (c := ((((b64 a.dead) ^^^ 1) &&& ((b64 b.dead) ^^^ 1))).toNat) rfl rfl (u_and _ _)) rfl ?_
  refine x_y (v := .int .u64 (((((b64 a.dead) ^^^ 1) &&& ((b64 b.dead) ^^^ 1))).toNat)) (y_assign rfl) rfl ?_
  refine x_nil ?_
  refine thenS_n ?_
  refine wpS_seq ?_
  refine wpS_lex (by kernel_rfl) (by kernel_rfl) ?_
  refine x_y (v := .pointer (some ⟨b_1, 1, none⟩)) (y_fieldAddr (o' := 1) rfl Try.underlying23 rfl Try.sizeOf2 (by decide) rfl) rfl ?_
  refine x_y (v := .int .i64 (a.key.toInt)) (y_load1 rfl Try.isAgg2 (own1 (.t .h) rfl)) rfl ?_
  refine x_y (v := .int .u64 ((a.key.toUInt64).toNat)) (y_convI (a := a.key.toInt) (c := (a.key.toUInt64).toNat) rfl Try.underlying2 Try.underlying24 (iu_conv _)) rfl ?_
  refine x_y (v := .pointer (some ⟨b_2, 1, none⟩)) (y_fieldAddr (o' := 1) rfl Try.underlying23 rfl Try.sizeOf2 (by decide) rfl) rfl ?_
  refine x_y (v := .int .i64 (b.key.toInt)) (y_load1 rfl Try.isAgg2 (own1 .h rfl)) rfl ?_
  refine x_y (v := .int .u64 ((b.key.toUInt64).toNat)) (y_convI (a := b.key.toInt) (c := (b.key.toUInt64).toNat) rfl Try.underlying2 Try.underlying24 (iu_conv _)) rfl ?_
  refine x_y (v := .int .u64 ((b64 (decide (a.key.toUInt64 = b.key.toUInt64))).toNat)) (y_call (args := #[.int .u64 ((a.key.toUInt64).toNat), .int .u64 ((b.key.toUInt64).toNat)]) (v := .int .u64 ((b64 (decide (a.key.toUInt64 = b.key.toUInt64))).toNat)) Try.call143 (ev2 rfl rfl) (fun w hs => same_c a.key.toUInt64 b.key.toUInt64 w)) rfl ?_
  refine x_y (v := .pointer (some ⟨b_1, 3, none⟩)) (y_fieldAddr (o' := 3) rfl Try.underlying23 rfl Try.sizeOf2 (by decide) rfl) rfl ?_
  refine x_y (v := .int .i64 (a.seq.toInt)) (y_load1 rfl Try.isAgg2 (own1 (.t .h) rfl)) rfl ?_
  refine x_y (v := .pointer (some ⟨b_2, 3, none⟩)) (y_fieldAddr (o' := 3) rfl Try.underlying23 rfl Try.sizeOf2 (by decide) rfl) rfl ?_
  refine x_y (v := .int .i64 (b.seq.toInt)) (y_load1 rfl Try.isAgg2 (own1 .h rfl)) rfl ?_
  refine x_y (v := .int .u64 ((b64 (decide (a.seq < b.seq))).toNat)) (y_call (args := #[.int .i64 (a.seq.toInt), .int .i64 (b.seq.toInt)]) (v := .int .u64 ((b64 (decide (a.seq < b.seq))).toNat)) Try.call144 (ev2 rfl rfl) (fun w hs => below_c a.seq b.seq w)) rfl ?_
  refine x_y (v := .int .u64 ((((b64 (decide (a.key.toUInt64 = b.key.toUInt64))) &&& (b64 (decide (a.seq < b.seq))))).toNat)) (y_and (a := (b64 (decide (a.key.toUInt64 = b.key.toUInt64))).toNat) (b := (b64 (decide (a.seq < b.seq))).toNat) (c := (((b64 (decide (a.key.toUInt64 = b.key.toUInt64))) &&& (b64 (decide (a.seq < b.seq))))).toNat) rfl rfl (u_and _ _)) rfl ?_
  refine x_y (v := .int .u64 ((((b64 (decide (a.key.toUInt64 = b.key.toUInt64))) &&& (b64 (decide (a.seq < b.seq))))).toNat)) (y_assign rfl) rfl ?_
  refine x_nil ?_
  refine thenS_n ?_
  refine wpS_seq ?_
  refine wpS_region ?_
  refine s_y (v := .agg #[.bool (a.dead), .int .i64 (a.key.toInt), .int .i64 (a.value.toInt), .int .i64 (a.seq.toInt)]) (y_loadN (vs := [.bool (a.dead), .int .i64 (a.key.toInt), .int .i64 (a.value.toInt), .int .i64 (a.seq.toInt)]) rfl Try.isAgg23 Try.sizeOf23 (ownN (.t .h) rfl)) rfl ?_
  refine s_y (v := .agg #[.bool (b.dead), .int .i64 (b.key.toInt), .int .i64 (b.value.toInt), .int .i64 (b.seq.toInt)]) (y_loadN (vs := [.bool (b.dead), .int .i64 (b.key.toInt), .int .i64 (b.value.toInt), .int .i64 (b.seq.toInt)]) rfl Try.isAgg23 Try.sizeOf23 (ownN .h rfl)) rfl ?_
  refine s_y (v := .int .u64 ((b64 (ahead a b)).toNat)) (y_call (args := #[.agg #[.bool (a.dead), .int .i64 (a.key.toInt), .int .i64 (a.value.toInt), .int .i64 (a.seq.toInt)], .agg #[.bool (b.dead), .int .i64 (b.key.toInt), .int .i64 (b.value.toInt), .int .i64 (b.seq.toInt)]]) (v := .int .u64 ((b64 (ahead a b)).toNat)) Try.call43 (ev2 rfl rfl) (fun w hs => ahead_c a b w)) rfl ?_
  refine s_y (v := .int .u64 (((((b64 a.dead) ^^^ 1) &&& ((b64 b.dead) ^^^ 1))).toNat)) (y_move rfl) rfl ?_
  refine s_y (v := .int .u64 ((((b64 (decide (a.key.toUInt64 = b.key.toUInt64))) &&& (b64 (decide (a.seq < b.seq))))).toNat)) (y_move rfl) rfl ?_
  refine s_y (v := .int .u64 ((((((b64 a.dead) ^^^ 1) &&& ((b64 b.dead) ^^^ 1)) &&& ((b64 (decide (a.key.toUInt64 = b.key.toUInt64))) &&& (b64 (decide (a.seq < b.seq)))))).toNat)) (y_and (a := ((((b64 a.dead) ^^^ 1) &&& ((b64 b.dead) ^^^ 1))).toNat) (b := (((b64 (decide (a.key.toUInt64 = b.key.toUInt64))) &&& (b64 (decide (a.seq < b.seq))))).toNat) (c := (((((b64 a.dead) ^^^ 1) &&& ((b64 b.dead) ^^^ 1)) &&& ((b64 (decide (a.key.toUInt64 = b.key.toUInt64))) &&& (b64 (decide (a.seq < b.seq)))))).toNat) rfl rfl (u_and _ _)) rfl ?_
  refine s_y (v := .int .u64 ((((b64 (ahead a b)) ||| ((((b64 a.dead) ^^^ 1) &&& ((b64 b.dead) ^^^ 1)) &&& ((b64 (decide (a.key.toUInt64 = b.key.toUInt64))) &&& (b64 (decide (a.seq < b.seq))))))).toNat)) (y_or (a := (b64 (ahead a b)).toNat) (b := (((((b64 a.dead) ^^^ 1) &&& ((b64 b.dead) ^^^ 1)) &&& ((b64 (decide (a.key.toUInt64 = b.key.toUInt64))) &&& (b64 (decide (a.seq < b.seq)))))).toNat) (c := (((b64 (ahead a b)) ||| ((((b64 a.dead) ^^^ 1) &&& ((b64 b.dead) ^^^ 1)) &&& ((b64 (decide (a.key.toUInt64 = b.key.toUInt64))) &&& (b64 (decide (a.seq < b.seq))))))).toNat) rfl rfl (u_or _ _)) rfl ?_
  refine s_y (v := .int .u64 ((((b64 (ahead a b)) ||| ((((b64 a.dead) ^^^ 1) &&& ((b64 b.dead) ^^^ 1)) &&& ((b64 (decide (a.key.toUInt64 = b.key.toUInt64))) &&& (b64 (decide (a.seq < b.seq))))))).toNat)) (y_assign rfl) rfl ?_
  refine wpL_nil ?_
  refine thenS_n ?_
  refine wpS_ret ?_
  refine fin1 (v := .int .u64 ((((b64 (ahead a b)) ||| ((((b64 a.dead) ^^^ 1) &&& ((b64 b.dead) ^^^ 1)) &&& ((b64 (decide (a.key.toUInt64 = b.key.toUInt64))) &&& (b64 (decide (a.seq < b.seq))))))).toNat)) (.inr rfl) .nil Try.results42 rfl ?_
  exact fun w' hs => ⟨(by rw [before_bits]), hs⟩

theorem one_c (b : Bool) (w : World) : Pure Try.prog 145 #[.bool b] w (.int .u64 ((b64 b).toNat)) := by
  refine calls_S (n := 4) (σ0 := (upd fr0 0 (.bool b))) (D := []) (A := []) Try.func145 rfl Try.ntmps145 rfl (a1_fr _) (SH.start w) ?_
  refine wpS_seq ?_
  refine wpS_region ?_
  refine s_y (v := .int .u64 0) (y_assign rfl) rfl ?_
  refine wpL_nil ?_
  refine thenS_n ?_
  refine wpS_seq ?_
  refine wpS_seq ?_
  refine wpS_region ?_
  refine s_y (v := .bool b) (y_move rfl) rfl ?_
  refine wpL_nil ?_
  refine thenS_n ?_
  refine wpS_cond (t := b) rfl (fun b1 => ?_) (fun b1 => ?_)
  · -- b true
    subst b1
    refine wpS_seq ?_
    refine wpS_region ?_
    refine s_y (v := .int .u64 1) (y_assign rfl) rfl ?_
    refine wpL_nil ?_
    refine thenS_n ?_
    refine wpS_ret ?_
    refine thenS_r ?_
    refine fin1 (v := .int .u64 1) (.inr rfl) .nil Try.results145 rfl ?_
    exact fun w' hs => ⟨rfl, hs⟩
  · -- b false
    subst b1
    refine wpS_skip ?_
    refine thenS_n ?_
    refine wpS_seq ?_
    refine wpS_region ?_
    refine s_y (v := .int .u64 0) (y_assign rfl) rfl ?_
    refine wpL_nil ?_
    refine thenS_n ?_
    refine wpS_ret ?_
    refine fin1 (v := .int .u64 0) (.inr rfl) .nil Try.results145 rfl ?_
    exact fun w' hs => ⟨rfl, hs⟩

theorem refahead_c (a b : Rec) (w : World) : Pure Try.prog 46 #[.agg #[.bool (a.dead), .int .i64 (a.key.toInt), .int .i64 (a.value.toInt), .int .i64 (a.seq.toInt)], .agg #[.bool (b.dead), .int .i64 (b.key.toInt), .int .i64 (b.value.toInt), .int .i64 (b.seq.toInt)]] w (.int .u64 ((b64 (ahead a b)).toNat)) := by
  refine calls_S (n := 20) (σ0 := (upd (upd fr0 0 (.agg #[.bool (a.dead), .int .i64 (a.key.toInt), .int .i64 (a.value.toInt), .int .i64 (a.seq.toInt)])) 1 (.agg #[.bool (b.dead), .int .i64 (b.key.toInt), .int .i64 (b.value.toInt), .int .i64 (b.seq.toInt)]))) (D := []) (A := []) Try.func46 rfl Try.ntmps46 rfl (a2_fr _ _) (SH.start w) ?_
  refine wpS_seq ?_
  refine wpS_region ?_
  refine s_e rfl ?_
  refine e_box (v := .agg #[.bool (a.dead), .int .i64 (a.key.toInt), .int .i64 (a.value.toInt), .int .i64 (a.seq.toInt)]) (l := [.bool (a.dead), .int .i64 (a.key.toInt), .int .i64 (a.value.toInt), .int .i64 (a.seq.toInt)]) rfl rfl ?_
  intro b_1
  refine s_e rfl ?_
  refine e_box (v := .agg #[.bool (b.dead), .int .i64 (b.key.toInt), .int .i64 (b.value.toInt), .int .i64 (b.seq.toInt)]) (l := [.bool (b.dead), .int .i64 (b.key.toInt), .int .i64 (b.value.toInt), .int .i64 (b.seq.toInt)]) rfl rfl ?_
  intro b_2
  refine s_y (v := .int .u64 0) (y_assign rfl) rfl ?_
  refine wpL_nil ?_
  refine thenS_n ?_
  refine wpS_seq ?_
  refine wpS_region ?_
  refine s_y (v := .pointer (some ⟨b_1, 0, none⟩)) (y_fieldAddr (o' := 0) rfl Try.underlying23 rfl Try.sizeOf4 (by decide) rfl) rfl ?_
  refine s_y (v := .bool (a.dead)) (y_load1 rfl Try.isAgg4 (own1 (.t .h) rfl)) rfl ?_
  refine s_y (v := .bool (!a.dead)) (y_not (b := a.dead) rfl) rfl ?_
  refine s_y (v := .bool (!a.dead)) (y_move rfl) rfl ?_
  rcases Bool.eq_false_or_eq_true (!a.dead) with b3 | b3
  · -- !a.dead True
    refine s_gy (y_fieldAddr (o' := 0) rfl Try.underlying23 rfl Try.sizeOf4 (by decide) rfl) rfl rfl rfl rfl (b' := !a.dead) rfl b3 ?_
    refine s_gy (y_load1 rfl Try.isAgg4 (own1 .h rfl)) rfl rfl rfl rfl (b' := !a.dead) rfl b3 ?_
    refine s_gy (y_move rfl) rfl rfl rfl rfl (b' := !a.dead) rfl b3 ?_
    rcases Bool.eq_false_or_eq_true (b.dead) with b4 | b4
    · -- b.dead True
      refine s_no rfl rfl rfl rfl (b' := b.dead) rfl b4 ?_
      refine s_no rfl rfl rfl rfl (b' := b.dead) rfl b4 ?_
      refine s_no rfl rfl rfl rfl (b' := b.dead) rfl b4 ?_
      refine s_no rfl rfl rfl rfl (b' := b.dead) rfl b4 ?_
      refine s_no rfl rfl rfl rfl (b' := b.dead) rfl b4 ?_
      refine s_gy (y_pickT (b := b.dead) (v := .bool true) rfl b4 rfl) rfl rfl rfl rfl (b' := !a.dead) rfl b3 ?_
      refine s_y (v := .bool true) (y_pickT (b := !a.dead) (v := .bool true) rfl b3 rfl) rfl ?_
      refine s_y (v := .int .u64 ((b64 true).toNat)) (y_call (args := #[.bool true]) (v := .int .u64 ((b64 true).toNat)) Try.call145 (ev1 rfl) (fun w hs => one_c true w)) rfl ?_
      refine s_y (v := .int .u64 ((b64 true).toNat)) (y_assign rfl) rfl ?_
      refine wpL_nil ?_
      refine thenS_n ?_
      refine wpS_ret ?_
      refine fin1 (v := .int .u64 ((b64 true).toNat)) (.inr rfl) .nil Try.results46 rfl ?_
      exact fun w' hs => ⟨(by simp [ahead, *]), hs⟩
    · -- b.dead False
      refine s_gy (y_fieldAddr (o' := 1) rfl Try.underlying23 rfl Try.sizeOf2 (by decide) rfl) rfl rfl rfl rfl (b' := b.dead) rfl b4 ?_
      refine s_gy (y_load1 rfl Try.isAgg2 (own1 (.t .h) rfl)) rfl rfl rfl rfl (b' := b.dead) rfl b4 ?_
      refine s_gy (y_fieldAddr (o' := 1) rfl Try.underlying23 rfl Try.sizeOf2 (by decide) rfl) rfl rfl rfl rfl (b' := b.dead) rfl b4 ?_
      refine s_gy (y_load1 rfl Try.isAgg2 (own1 .h rfl)) rfl rfl rfl rfl (b' := b.dead) rfl b4 ?_
      refine s_gy (y_lss (a := a.key.toInt) (b := b.key.toInt) (c := decide (a.key < b.key)) rfl rfl (i_lss _ _)) rfl rfl rfl rfl (b' := b.dead) rfl b4 ?_
      refine s_gy (y_pickF (b := b.dead) (v := .bool (decide (a.key < b.key))) rfl b4 rfl) rfl rfl rfl rfl (b' := !a.dead) rfl b3 ?_
      refine s_y (v := .bool (decide (a.key < b.key))) (y_pickT (b := !a.dead) (v := .bool (decide (a.key < b.key))) rfl b3 rfl) rfl ?_
      refine s_y (v := .int .u64 ((b64 (decide (a.key < b.key))).toNat)) (y_call (args := #[.bool (decide (a.key < b.key))]) (v := .int .u64 ((b64 (decide (a.key < b.key))).toNat)) Try.call145 (ev1 rfl) (fun w hs => one_c (decide (a.key < b.key)) w)) rfl ?_
      refine s_y (v := .int .u64 ((b64 (decide (a.key < b.key))).toNat)) (y_assign rfl) rfl ?_
      refine wpL_nil ?_
      refine thenS_n ?_
      refine wpS_ret ?_
      refine fin1 (v := .int .u64 ((b64 (decide (a.key < b.key))).toNat)) (.inr rfl) .nil Try.results46 rfl ?_
      exact fun w' hs => ⟨(by simp [ahead, *]), hs⟩
  · -- !a.dead False
    refine s_no rfl rfl rfl rfl (b' := !a.dead) rfl b3 ?_
    refine s_no rfl rfl rfl rfl (b' := !a.dead) rfl b3 ?_
    refine s_no rfl rfl rfl rfl (b' := !a.dead) rfl b3 ?_
    refine s_nu rfl rfl rfl rfl rfl ?_
    refine s_nu rfl rfl rfl rfl rfl ?_
    refine s_nu rfl rfl rfl rfl rfl ?_
    refine s_nu rfl rfl rfl rfl rfl ?_
    refine s_nu rfl rfl rfl rfl rfl ?_
    refine s_no rfl rfl rfl rfl (b' := !a.dead) rfl b3 ?_
    refine s_y (v := .bool false) (y_pickF (b := !a.dead) (v := .bool false) rfl b3 rfl) rfl ?_
    refine s_y (v := .int .u64 ((b64 false).toNat)) (y_call (args := #[.bool false]) (v := .int .u64 ((b64 false).toNat)) Try.call145 (ev1 rfl) (fun w hs => one_c false w)) rfl ?_
    refine s_y (v := .int .u64 ((b64 false).toNat)) (y_assign rfl) rfl ?_
    refine wpL_nil ?_
    refine thenS_n ?_
    refine wpS_ret ?_
    refine fin1 (v := .int .u64 ((b64 false).toNat)) (.inr rfl) .nil Try.results46 rfl ?_
    exact fun w' hs => ⟨(by simp [ahead, *]), hs⟩

theorem refbefore_c (a b : Rec) (w : World) : Pure Try.prog 45 #[.agg #[.bool (a.dead), .int .i64 (a.key.toInt), .int .i64 (a.value.toInt), .int .i64 (a.seq.toInt)], .agg #[.bool (b.dead), .int .i64 (b.key.toInt), .int .i64 (b.value.toInt), .int .i64 (b.seq.toInt)]] w (.int .u64 ((b64 (before a b)).toNat)) := by
  refine calls_S (n := 34) (σ0 := (upd (upd fr0 0 (.agg #[.bool (a.dead), .int .i64 (a.key.toInt), .int .i64 (a.value.toInt), .int .i64 (a.seq.toInt)])) 1 (.agg #[.bool (b.dead), .int .i64 (b.key.toInt), .int .i64 (b.value.toInt), .int .i64 (b.seq.toInt)]))) (D := []) (A := []) Try.func45 rfl Try.ntmps45 rfl (a2_fr _ _) (SH.start w) ?_
  refine wpS_seq ?_
  refine wpS_region ?_
  refine s_e rfl ?_
  refine e_box (v := .agg #[.bool (a.dead), .int .i64 (a.key.toInt), .int .i64 (a.value.toInt), .int .i64 (a.seq.toInt)]) (l := [.bool (a.dead), .int .i64 (a.key.toInt), .int .i64 (a.value.toInt), .int .i64 (a.seq.toInt)]) rfl rfl ?_
  intro b_1
  refine s_e rfl ?_
  refine e_box (v := .agg #[.bool (b.dead), .int .i64 (b.key.toInt), .int .i64 (b.value.toInt), .int .i64 (b.seq.toInt)]) (l := [.bool (b.dead), .int .i64 (b.key.toInt), .int .i64 (b.value.toInt), .int .i64 (b.seq.toInt)]) rfl rfl ?_
  intro b_2
  refine s_y (v := .int .u64 0) (y_assign rfl) rfl ?_
  refine wpL_nil ?_
  refine thenS_n ?_
  refine wpS_seq ?_
  refine wpS_region ?_
  refine s_y (v := .pointer (some ⟨b_1, 0, none⟩)) (y_fieldAddr (o' := 0) rfl Try.underlying23 rfl Try.sizeOf4 (by decide) rfl) rfl ?_
  refine s_y (v := .bool (a.dead)) (y_load1 rfl Try.isAgg4 (own1 (.t .h) rfl)) rfl ?_
  refine s_y (v := .bool (!a.dead)) (y_not (b := a.dead) rfl) rfl ?_
  refine s_y (v := .bool (!a.dead)) (y_move rfl) rfl ?_
  rcases Bool.eq_false_or_eq_true (!a.dead) with b3 | b3
  · -- !a.dead True
    refine s_gy (y_fieldAddr (o' := 0) rfl Try.underlying23 rfl Try.sizeOf4 (by decide) rfl) rfl rfl rfl rfl (b' := !a.dead) rfl b3 ?_
    refine s_gy (y_load1 rfl Try.isAgg4 (own1 .h rfl)) rfl rfl rfl rfl (b' := !a.dead) rfl b3 ?_
    refine s_gy (y_move rfl) rfl rfl rfl rfl (b' := !a.dead) rfl b3 ?_
    rcases Bool.eq_false_or_eq_true (b.dead) with b4 | b4
    · -- b.dead True
      refine s_no rfl rfl rfl rfl (b' := b.dead) rfl b4 ?_
      refine s_no rfl rfl rfl rfl (b' := b.dead) rfl b4 ?_
      refine s_no rfl rfl rfl rfl (b' := b.dead) rfl b4 ?_
      refine s_no rfl rfl rfl rfl (b' := b.dead) rfl b4 ?_
      refine s_no rfl rfl rfl rfl (b' := b.dead) rfl b4 ?_
      refine s_gy (y_pickT (b := b.dead) (v := .bool true) rfl b4 rfl) rfl rfl rfl rfl (b' := !a.dead) rfl b3 ?_
      refine s_gy (y_move rfl) rfl rfl rfl rfl (b' := !a.dead) rfl b3 ?_
      refine s_no rfl rfl rfl rfl rfl rfl ?_
      refine s_no rfl rfl rfl rfl rfl rfl ?_
      refine s_no rfl rfl rfl rfl rfl rfl ?_
      refine s_no rfl rfl rfl rfl rfl rfl ?_
      refine s_no rfl rfl rfl rfl rfl rfl ?_
      refine s_no rfl rfl rfl rfl rfl rfl ?_
      refine s_nu rfl rfl rfl rfl rfl ?_
      refine s_nu rfl rfl rfl rfl rfl ?_
      refine s_nu rfl rfl rfl rfl rfl ?_
      refine s_nu rfl rfl rfl rfl rfl ?_
      refine s_nu rfl rfl rfl rfl rfl ?_
      refine s_no rfl rfl rfl rfl rfl rfl ?_
      refine s_gy (y_pickT (v := .bool true) rfl rfl rfl) rfl rfl rfl rfl (b' := !a.dead) rfl b3 ?_
      refine s_y (v := .bool true) (y_pickT (b := !a.dead) (v := .bool true) rfl b3 rfl) rfl ?_
      refine s_y (v := .int .u64 ((b64 true).toNat)) (y_call (args := #[.bool true]) (v := .int .u64 ((b64 true).toNat)) Try.call145 (ev1 rfl) (fun w hs => one_c true w)) rfl ?_
      refine s_y (v := .int .u64 ((b64 true).toNat)) (y_assign rfl) rfl ?_
      refine wpL_nil ?_
      refine thenS_n ?_
      refine wpS_ret ?_
      refine fin1 (v := .int .u64 ((b64 true).toNat)) (.inr rfl) .nil Try.results45 rfl ?_
      exact fun w' hs => ⟨(by simp [before, *]), hs⟩
    · -- b.dead False
      refine s_gy (y_fieldAddr (o' := 1) rfl Try.underlying23 rfl Try.sizeOf2 (by decide) rfl) rfl rfl rfl rfl (b' := b.dead) rfl b4 ?_
      refine s_gy (y_load1 rfl Try.isAgg2 (own1 (.t .h) rfl)) rfl rfl rfl rfl (b' := b.dead) rfl b4 ?_
      refine s_gy (y_fieldAddr (o' := 1) rfl Try.underlying23 rfl Try.sizeOf2 (by decide) rfl) rfl rfl rfl rfl (b' := b.dead) rfl b4 ?_
      refine s_gy (y_load1 rfl Try.isAgg2 (own1 .h rfl)) rfl rfl rfl rfl (b' := b.dead) rfl b4 ?_
      refine s_gy (y_lss (a := a.key.toInt) (b := b.key.toInt) (c := decide (a.key < b.key)) rfl rfl (i_lss _ _)) rfl rfl rfl rfl (b' := b.dead) rfl b4 ?_
      refine s_gy (y_pickF (b := b.dead) (v := .bool (decide (a.key < b.key))) rfl b4 rfl) rfl rfl rfl rfl (b' := !a.dead) rfl b3 ?_
      refine s_gy (y_move rfl) rfl rfl rfl rfl (b' := !a.dead) rfl b3 ?_
      rcases Bool.eq_false_or_eq_true (decide (a.key < b.key)) with b5 | b5
      · -- decide (a.key < b.key) True
        refine s_no rfl rfl rfl rfl (b' := decide (a.key < b.key)) rfl b5 ?_
        refine s_no rfl rfl rfl rfl (b' := decide (a.key < b.key)) rfl b5 ?_
        refine s_no rfl rfl rfl rfl (b' := decide (a.key < b.key)) rfl b5 ?_
        refine s_no rfl rfl rfl rfl (b' := decide (a.key < b.key)) rfl b5 ?_
        refine s_no rfl rfl rfl rfl (b' := decide (a.key < b.key)) rfl b5 ?_
        refine s_no rfl rfl rfl rfl (b' := decide (a.key < b.key)) rfl b5 ?_
        refine s_nu rfl rfl rfl rfl rfl ?_
        refine s_nu rfl rfl rfl rfl rfl ?_
        refine s_nu rfl rfl rfl rfl rfl ?_
        refine s_nu rfl rfl rfl rfl rfl ?_
        refine s_nu rfl rfl rfl rfl rfl ?_
        refine s_no rfl rfl rfl rfl (b' := decide (a.key < b.key)) rfl b5 ?_
        refine s_gy (y_pickT (b := decide (a.key < b.key)) (v := .bool true) rfl b5 rfl) rfl rfl rfl rfl (b' := !a.dead) rfl b3 ?_
        refine s_y (v := .bool true) (y_pickT (b := !a.dead) (v := .bool true) rfl b3 rfl) rfl ?_
        refine s_y (v := .int .u64 ((b64 true).toNat)) (y_call (args := #[.bool true]) (v := .int .u64 ((b64 true).toNat)) Try.call145 (ev1 rfl) (fun w hs => one_c true w)) rfl ?_
        refine s_y (v := .int .u64 ((b64 true).toNat)) (y_assign rfl) rfl ?_
        refine wpL_nil ?_
        refine thenS_n ?_
        refine wpS_ret ?_
        refine fin1 (v := .int .u64 ((b64 true).toNat)) (.inr rfl) .nil Try.results45 rfl ?_
        exact fun w' hs => ⟨(by simp [before, *]), hs⟩
      · -- decide (a.key < b.key) False
        refine s_gy (y_fieldAddr (o' := 1) rfl Try.underlying23 rfl Try.sizeOf2 (by decide) rfl) rfl rfl rfl rfl (b' := decide (a.key < b.key)) rfl b5 ?_
        refine s_gy (y_load1 rfl Try.isAgg2 (own1 (.t .h) rfl)) rfl rfl rfl rfl (b' := decide (a.key < b.key)) rfl b5 ?_
        refine s_gy (y_fieldAddr (o' := 1) rfl Try.underlying23 rfl Try.sizeOf2 (by decide) rfl) rfl rfl rfl rfl (b' := decide (a.key < b.key)) rfl b5 ?_
        refine s_gy (y_load1 rfl Try.isAgg2 (own1 .h rfl)) rfl rfl rfl rfl (b' := decide (a.key < b.key)) rfl b5 ?_
        refine s_gy (y_eql (a := a.key.toInt) (b := b.key.toInt) (c := decide (a.key = b.key)) rfl rfl (i_eql _ _)) rfl rfl rfl rfl (b' := decide (a.key < b.key)) rfl b5 ?_
        refine s_gy (y_move rfl) rfl rfl rfl rfl (b' := decide (a.key < b.key)) rfl b5 ?_
        rcases Bool.eq_false_or_eq_true (decide (a.key = b.key)) with b6 | b6
        · -- decide (a.key = b.key) True
          refine s_gy (y_fieldAddr (o' := 3) rfl Try.underlying23 rfl Try.sizeOf2 (by decide) rfl) rfl rfl rfl rfl (b' := decide (a.key = b.key)) rfl b6 ?_
          refine s_gy (y_load1 rfl Try.isAgg2 (own1 (.t .h) rfl)) rfl rfl rfl rfl (b' := decide (a.key = b.key)) rfl b6 ?_
          refine s_gy (y_fieldAddr (o' := 3) rfl Try.underlying23 rfl Try.sizeOf2 (by decide) rfl) rfl rfl rfl rfl (b' := decide (a.key = b.key)) rfl b6 ?_
          refine s_gy (y_load1 rfl Try.isAgg2 (own1 .h rfl)) rfl rfl rfl rfl (b' := decide (a.key = b.key)) rfl b6 ?_
          refine s_gy (y_lss (a := a.seq.toInt) (b := b.seq.toInt) (c := decide (a.seq < b.seq)) rfl rfl (i_lss _ _)) rfl rfl rfl rfl (b' := decide (a.key = b.key)) rfl b6 ?_
          refine s_gy (y_pickT (b := decide (a.key = b.key)) (v := .bool (decide (a.seq < b.seq))) rfl b6 rfl) rfl rfl rfl rfl (b' := decide (a.key < b.key)) rfl b5 ?_
          refine s_gy (y_pickF (b := decide (a.key < b.key)) (v := .bool (decide (a.seq < b.seq))) rfl b5 rfl) rfl rfl rfl rfl (b' := !a.dead) rfl b3 ?_
          refine s_y (v := .bool (decide (a.seq < b.seq))) (y_pickT (b := !a.dead) (v := .bool (decide (a.seq < b.seq))) rfl b3 rfl) rfl ?_
          refine s_y (v := .int .u64 ((b64 (decide (a.seq < b.seq))).toNat)) (y_call (args := #[.bool (decide (a.seq < b.seq))]) (v := .int .u64 ((b64 (decide (a.seq < b.seq))).toNat)) Try.call145 (ev1 rfl) (fun w hs => one_c (decide (a.seq < b.seq)) w)) rfl ?_
          refine s_y (v := .int .u64 ((b64 (decide (a.seq < b.seq))).toNat)) (y_assign rfl) rfl ?_
          refine wpL_nil ?_
          refine thenS_n ?_
          refine wpS_ret ?_
          refine fin1 (v := .int .u64 ((b64 (decide (a.seq < b.seq))).toNat)) (.inr rfl) .nil Try.results45 rfl ?_
          exact fun w' hs => ⟨(by simp [before, *]), hs⟩
        · -- decide (a.key = b.key) False
          refine s_no rfl rfl rfl rfl (b' := decide (a.key = b.key)) rfl b6 ?_
          refine s_no rfl rfl rfl rfl (b' := decide (a.key = b.key)) rfl b6 ?_
          refine s_no rfl rfl rfl rfl (b' := decide (a.key = b.key)) rfl b6 ?_
          refine s_no rfl rfl rfl rfl (b' := decide (a.key = b.key)) rfl b6 ?_
          refine s_no rfl rfl rfl rfl (b' := decide (a.key = b.key)) rfl b6 ?_
          refine s_gy (y_pickF (b := decide (a.key = b.key)) (v := .bool false) rfl b6 rfl) rfl rfl rfl rfl (b' := decide (a.key < b.key)) rfl b5 ?_
          refine s_gy (y_pickF (b := decide (a.key < b.key)) (v := .bool false) rfl b5 rfl) rfl rfl rfl rfl (b' := !a.dead) rfl b3 ?_
          refine s_y (v := .bool false) (y_pickT (b := !a.dead) (v := .bool false) rfl b3 rfl) rfl ?_
          refine s_y (v := .int .u64 ((b64 false).toNat)) (y_call (args := #[.bool false]) (v := .int .u64 ((b64 false).toNat)) Try.call145 (ev1 rfl) (fun w hs => one_c false w)) rfl ?_
          refine s_y (v := .int .u64 ((b64 false).toNat)) (y_assign rfl) rfl ?_
          refine wpL_nil ?_
          refine thenS_n ?_
          refine wpS_ret ?_
          refine fin1 (v := .int .u64 ((b64 false).toNat)) (.inr rfl) .nil Try.results45 rfl ?_
          exact fun w' hs => ⟨(by simp [before, *]), hs⟩
  · -- !a.dead False
    refine s_no rfl rfl rfl rfl (b' := !a.dead) rfl b3 ?_
    refine s_no rfl rfl rfl rfl (b' := !a.dead) rfl b3 ?_
    refine s_no rfl rfl rfl rfl (b' := !a.dead) rfl b3 ?_
    refine s_nu rfl rfl rfl rfl rfl ?_
    refine s_nu rfl rfl rfl rfl rfl ?_
    refine s_nu rfl rfl rfl rfl rfl ?_
    refine s_nu rfl rfl rfl rfl rfl ?_
    refine s_nu rfl rfl rfl rfl rfl ?_
    refine s_no rfl rfl rfl rfl (b' := !a.dead) rfl b3 ?_
    refine s_no rfl rfl rfl rfl (b' := !a.dead) rfl b3 ?_
    refine s_nu rfl rfl rfl rfl rfl ?_
    refine s_nu rfl rfl rfl rfl rfl ?_
    refine s_nu rfl rfl rfl rfl rfl ?_
    refine s_nu rfl rfl rfl rfl rfl ?_
    refine s_nu rfl rfl rfl rfl rfl ?_
    refine s_nu rfl rfl rfl rfl rfl ?_
    refine s_nu rfl rfl rfl rfl rfl ?_
    refine s_nu rfl rfl rfl rfl rfl ?_
    refine s_nu rfl rfl rfl rfl rfl ?_
    refine s_nu rfl rfl rfl rfl rfl ?_
    refine s_nu rfl rfl rfl rfl rfl ?_
    refine s_nu rfl rfl rfl rfl rfl ?_
    refine s_no rfl rfl rfl rfl (b' := !a.dead) rfl b3 ?_
    refine s_y (v := .bool false) (y_pickF (b := !a.dead) (v := .bool false) rfl b3 rfl) rfl ?_
    refine s_y (v := .int .u64 ((b64 false).toNat)) (y_call (args := #[.bool false]) (v := .int .u64 ((b64 false).toNat)) Try.call145 (ev1 rfl) (fun w hs => one_c false w)) rfl ?_
    refine s_y (v := .int .u64 ((b64 false).toNat)) (y_assign rfl) rfl ?_
    refine wpL_nil ?_
    refine thenS_n ?_
    refine wpS_ret ?_
    refine fin1 (v := .int .u64 ((b64 false).toNat)) (.inr rfl) .nil Try.results45 rfl ?_
    exact fun w' hs => ⟨(by simp [before, *]), hs⟩

theorem dead_c (w : World) : Pure Try.prog 49 #[] w (.agg #[.bool (deadR.dead), .int .i64 (deadR.key.toInt), .int .i64 (deadR.value.toInt), .int .i64 (deadR.seq.toInt)]) := by
  refine calls_S (n := 2) (σ0 := fr0) (D := []) (A := []) Try.func49 rfl Try.ntmps49 rfl (a0_fr) (SH.start w) ?_
  refine wpS_seq ?_
  refine wpS_region ?_
  refine s_e rfl ?_
  refine e_alloc (l := [.bool false, .int .i64 0, .int .i64 0, .int .i64 0]) Try.zeroValue23 rfl ?_
  intro b_1
  refine wpL_nil ?_
  refine thenS_n ?_
  refine wpS_seq ?_
  refine wpS_region ?_
  refine s_y (v := .agg #[.bool true, .int .i64 0, .int .i64 0, .int .i64 0]) (y_buildL (m := [(0, .bool true)]) (vs := #[.bool true, .int .i64 0, .int .i64 0, .int .i64 0]) (evc rfl evn) (fun w => by kernel_rfl)) rfl ?_
  refine s_e0 ?_
  refine e_store (vs := [.bool true, .int .i64 0, .int .i64 0, .int .i64 0]) (l' := [.bool true, .int .i64 0, .int .i64 0, .int .i64 0]) rfl rfl rfl rfl Try.sizeOf23 .h (Nat.le_of_ble_eq_true rfl) rfl ?_
  refine wpL_nil ?_
  refine thenS_n ?_
  refine wpS_ret ?_
  refine fin1' (M := [cel b_1 23 [.bool true, .int .i64 0, .int .i64 0, .int .i64 0]]) (.inr rfl) (.p .h .nil) Try.results49 (rvC (vs := [.bool true, .int .i64 0, .int .i64 0, .int .i64 0]) rfl Try.isAgg23 Try.sizeOf23 (fun w hs => ownN .h rfl w hs)) ?_
  intro w' hs; exact ⟨rfl, SH.dropAll (L := []) [_] hs⟩

theorem refdead_c (w : World) : Pure Try.prog 178 #[] w (.agg #[.bool (deadR.dead), .int .i64 (deadR.key.toInt), .int .i64 (deadR.value.toInt), .int .i64 (deadR.seq.toInt)]) := by
  refine calls_S (n := 2) (σ0 := fr0) (D := []) (A := []) Try.func178 rfl Try.ntmps178 rfl (a0_fr) (SH.start w) ?_
  refine wpS_seq ?_
  refine wpS_region ?_
  refine s_e rfl ?_
  refine e_alloc (l := [.bool false, .int .i64 0, .int .i64 0, .int .i64 0]) Try.zeroValue23 rfl ?_
  intro b_1
  refine wpL_nil ?_
  refine thenS_n ?_
  refine wpS_seq ?_
  refine wpS_region ?_
  refine s_y (v := .agg #[.bool true, .int .i64 0, .int .i64 0, .int .i64 0]) (y_buildL (m := [(0, .bool true)]) (vs := #[.bool true, .int .i64 0, .int .i64 0, .int .i64 0]) (evc rfl evn) (fun w => by kernel_rfl)) rfl ?_
  refine s_e0 ?_
  refine e_store (vs := [.bool true, .int .i64 0, .int .i64 0, .int .i64 0]) (l' := [.bool true, .int .i64 0, .int .i64 0, .int .i64 0]) rfl rfl rfl rfl Try.sizeOf23 .h (Nat.le_of_ble_eq_true rfl) rfl ?_
  refine wpL_nil ?_
  refine thenS_n ?_
  refine wpS_ret ?_
  refine fin1' (M := [cel b_1 23 [.bool true, .int .i64 0, .int .i64 0, .int .i64 0]]) (.inr rfl) (.p .h .nil) Try.results178 (rvC (vs := [.bool true, .int .i64 0, .int .i64 0, .int .i64 0]) rfl Try.isAgg23 Try.sizeOf23 (fun w hs => ownN .h rfl w hs)) ?_
  intro w' hs; exact ⟨rfl, SH.dropAll (L := []) [_] hs⟩

theorem pick1_c (x y : Int64) (c : UInt64) (b : Nat) (w : World) (hc : w.cell? ⟨b, 0, none⟩ = some (.int .u64 c.toNat)) : Pure Try.prog 146 #[.int .i64 (x.toInt), .int .i64 (y.toInt), .pointer (some ⟨b, 0, none⟩)] w (.int .i64 (((if c &&& 1 = 1 then x else y)).toInt)) := by
  refine calls_S (n := 13) (σ0 := (upd (upd (upd fr0 0 (.int .i64 (x.toInt))) 1 (.int .i64 (y.toInt))) 2 (.pointer (some ⟨b, 0, none⟩)))) (D := []) (A := []) Try.func146 rfl Try.ntmps146 rfl (a3_fr _ _ _) (SH.start w) ?_
  refine wpS_seq ?_
  refine wpS_region ?_
  refine s_y (v := .int .i64 0) (y_assign rfl) rfl ?_
  refine wpL_nil ?_
  refine thenS_n ?_
  refine wpS_seq ?_
  refine wpS_region ?_
  refine s_y (v := .int .u64 (c.toNat)) (y_load1 rfl Try.isAgg24 (old1 hc (by simp))) rfl ?_
  refine s_y (v := .int .i64 (x.toInt)) (y_move rfl) rfl ?_
  refine s_y (v := .int .u64 ((x.toUInt64).toNat)) (y_convI (a := x.toInt) (c := (x.toUInt64).toNat) rfl Try.underlying2 Try.underlying24 (iu_conv _)) rfl ?_
  refine s_y (v := .int .i64 (y.toInt)) (y_move rfl) rfl ?_
  refine s_y (v := .int .u64 ((y.toUInt64).toNat)) (y_convI (a := y.toInt) (c := (y.toUInt64).toNat) rfl Try.underlying2 Try.underlying24 (iu_conv _)) rfl ?_
  refine s_y (v := .int .u64 (((if c &&& 1 = 1 then x.toUInt64 else y.toUInt64)).toNat)) (y_call (args := #[.int .u64 (c.toNat), .int .u64 ((x.toUInt64).toNat), .int .u64 ((y.toUInt64).toNat)]) (v := .int .u64 (((if c &&& 1 = 1 then x.toUInt64 else y.toUInt64)).toNat)) Try.call147 (ev3 rfl rfl rfl) (fun w hs => ctpick_c c x.toUInt64 y.toUInt64 w)) rfl ?_
  refine s_y (v := .int .i64 (((if c &&& 1 = 1 then x.toUInt64 else y.toUInt64).toInt64).toInt)) (y_convI (a := ((if c &&& 1 = 1 then x.toUInt64 else y.toUInt64)).toNat) (c := ((if c &&& 1 = 1 then x.toUInt64 else y.toUInt64).toInt64).toInt) rfl Try.underlying24 Try.underlying2 (ui_conv _)) rfl ?_
  refine s_y (v := .int .i64 (((if c &&& 1 = 1 then x.toUInt64 else y.toUInt64).toInt64).toInt)) (y_assign rfl) rfl ?_
  refine wpL_nil ?_
  refine thenS_n ?_
  refine wpS_ret ?_
  refine fin1 (v := .int .i64 (((if c &&& 1 = 1 then x.toUInt64 else y.toUInt64).toInt64).toInt)) (.inr rfl) .nil Try.results146 rfl ?_
  exact fun w' hs => ⟨(by rw [pick_i64]), hs⟩

theorem pick_c (c : UInt64) (a b : Rec) (w : World) : Pure Try.prog 47 #[.int .u64 (c.toNat), .agg #[.bool (a.dead), .int .i64 (a.key.toInt), .int .i64 (a.value.toInt), .int .i64 (a.seq.toInt)], .agg #[.bool (b.dead), .int .i64 (b.key.toInt), .int .i64 (b.value.toInt), .int .i64 (b.seq.toInt)]] w (.agg #[.bool ((pickR c a b).dead), .int .i64 (((pickR c a b).key).toInt), .int .i64 (((pickR c a b).value).toInt), .int .i64 (((pickR c a b).seq).toInt)]) := by
  refine calls_S (n := 37) (σ0 := (upd (upd (upd fr0 0 (.int .u64 (c.toNat))) 1 (.agg #[.bool (a.dead), .int .i64 (a.key.toInt), .int .i64 (a.value.toInt), .int .i64 (a.seq.toInt)])) 2 (.agg #[.bool (b.dead), .int .i64 (b.key.toInt), .int .i64 (b.value.toInt), .int .i64 (b.seq.toInt)]))) (D := []) (A := []) Try.func47 rfl Try.ntmps47 rfl (a3_fr _ _ _) (SH.start w) ?_
  refine wpS_seq ?_
  refine wpS_region ?_
  refine s_e rfl ?_
  refine e_box (v := .int .u64 (c.toNat)) (l := [.int .u64 (c.toNat)]) rfl rfl ?_
  intro b_1
  refine s_e rfl ?_
  refine e_box (v := .agg #[.bool (a.dead), .int .i64 (a.key.toInt), .int .i64 (a.value.toInt), .int .i64 (a.seq.toInt)]) (l := [.bool (a.dead), .int .i64 (a.key.toInt), .int .i64 (a.value.toInt), .int .i64 (a.seq.toInt)]) rfl rfl ?_
  intro b_2
  refine s_e rfl ?_
  refine e_box (v := .agg #[.bool (b.dead), .int .i64 (b.key.toInt), .int .i64 (b.value.toInt), .int .i64 (b.seq.toInt)]) (l := [.bool (b.dead), .int .i64 (b.key.toInt), .int .i64 (b.value.toInt), .int .i64 (b.seq.toInt)]) rfl rfl ?_
  intro b_3
  refine s_e rfl ?_
  refine e_alloc (l := [.bool false, .int .i64 0, .int .i64 0, .int .i64 0]) Try.zeroValue23 rfl ?_
  intro b_4
  refine wpL_nil ?_
  refine thenS_n ?_
  refine wpS_seq ?_
  refine wpS_region ?_
  refine s_y (v := .func (.func 146) #[] #[.pointer (some ⟨b_1, 0, none⟩)]) (y_makeFunc (a := #[]) (b := #[.pointer (some ⟨b_1, 0, none⟩)]) ev0 (ev1 rfl)) rfl ?_
  refine s_y (v := .func (.func 146) #[] #[.pointer (some ⟨b_1, 0, none⟩)]) (y_assign rfl) rfl ?_
  refine wpL_nil ?_
  refine thenS_n ?_
  refine wpS_seq ?_
  refine wpS_any [28] (by kernel_rfl) ?_
  refine anyS_take (i := 0) rfl (by kernel_rfl) (by kernel_rfl) (by kernel_rfl) (by kernel_rfl) (Yq.of (v := .int .u64 (c.toNat)) (y_load1 rfl Try.isAgg24 (own1 (.t (.t (.t .h))) rfl)) rfl) (.p .h (.p .h (.p .h (.p .h .nil)))) ?_
  refine anyS_take (i := 1) rfl (by kernel_rfl) (by kernel_rfl) (by kernel_rfl) (by kernel_rfl) (Yq.of (v := .pointer (some ⟨b_2, 0, none⟩)) (y_fieldAddr (o' := 0) rfl Try.underlying23 rfl Try.sizeOf4 (by decide) rfl) rfl) (.p .h (.p .h (.p .h (.p .h .nil)))) ?_
  refine anyS_take (i := 2) rfl (by kernel_rfl) (by kernel_rfl) (by kernel_rfl) (by kernel_rfl) (Yq.of (v := .bool (a.dead)) (y_load1 rfl Try.isAgg4 (own1 (.t (.t .h)) rfl)) rfl) (.p .h (.p .h (.p .h (.p .h .nil)))) ?_
  refine anyS_take (i := 3) rfl (by kernel_rfl) (by kernel_rfl) (by kernel_rfl) (by kernel_rfl) (Yq.of (v := .int .u64 ((b64 a.dead).toNat)) (y_call (args := #[.bool (a.dead)]) (v := .int .u64 ((b64 a.dead).toNat)) Try.call142 (ev1 rfl) (fun w hs => bit_c a.dead w)) rfl) (.p .h (.p .h (.p .h (.p .h .nil)))) ?_
  refine anyS_take (i := 4) rfl (by kernel_rfl) (by kernel_rfl) (by kernel_rfl) (by kernel_rfl) (Yq.of (v := .pointer (some ⟨b_3, 0, none⟩)) (y_fieldAddr (o' := 0) rfl Try.underlying23 rfl Try.sizeOf4 (by decide) rfl) rfl) (.p .h (.p .h (.p .h (.p .h .nil)))) ?_
  refine anyS_take (i := 5) rfl (by kernel_rfl) (by kernel_rfl) (by kernel_rfl) (by kernel_rfl) (Yq.of (v := .bool (b.dead)) (y_load1 rfl Try.isAgg4 (own1 (.t .h) rfl)) rfl) (.p .h (.p .h (.p .h (.p .h .nil)))) ?_
  refine anyS_take (i := 6) rfl (by kernel_rfl) (by kernel_rfl) (by kernel_rfl) (by kernel_rfl) (Yq.of (v := .int .u64 ((b64 b.dead).toNat)) (y_call (args := #[.bool (b.dead)]) (v := .int .u64 ((b64 b.dead).toNat)) Try.call142 (ev1 rfl) (fun w hs => bit_c b.dead w)) rfl) (.p .h (.p .h (.p .h (.p .h .nil)))) ?_
  refine anyS_take (i := 7) rfl (by kernel_rfl) (by kernel_rfl) (by kernel_rfl) (by kernel_rfl) (Yq.of (v := .int .u64 (((if c &&& 1 = 1 then b64 a.dead else b64 b.dead)).toNat)) (y_call (args := #[.int .u64 (c.toNat), .int .u64 ((b64 a.dead).toNat), .int .u64 ((b64 b.dead).toNat)]) (v := .int .u64 (((if c &&& 1 = 1 then b64 a.dead else b64 b.dead)).toNat)) Try.call147 (ev3 rfl rfl rfl) (fun w hs => ctpick_c c (b64 a.dead) (b64 b.dead) w)) rfl) (.p .h (.p .h (.p .h (.p .h .nil)))) ?_
  refine anyS_take (i := 8) rfl (by kernel_rfl) (by kernel_rfl) (by kernel_rfl) (by kernel_rfl) (Yq.of (v := .bool (decide ((if c &&& 1 = 1 then b64 a.dead else b64 b.dead) = 1))) (y_eql (a := ((if c &&& 1 = 1 then b64 a.dead else b64 b.dead)).toNat) (b := 1) (c := decide ((if c &&& 1 = 1 then b64 a.dead else b64 b.dead) = 1)) rfl rfl (u_eqlL _ 1 (by decide))) rfl) (.p .h (.p .h (.p .h (.p .h .nil)))) ?_
  refine anyS_take (i := 9) rfl (by kernel_rfl) (by kernel_rfl) (by kernel_rfl) (by kernel_rfl) (Yq.of (v := .func (.func 146) #[] #[.pointer (some ⟨b_1, 0, none⟩)]) (y_move rfl) rfl) (.p .h (.p .h (.p .h (.p .h .nil)))) ?_
  refine anyS_take (i := 10) rfl (by kernel_rfl) (by kernel_rfl) (by kernel_rfl) (by kernel_rfl) (Yq.of (v := .pointer (some ⟨b_2, 1, none⟩)) (y_fieldAddr (o' := 1) rfl Try.underlying23 rfl Try.sizeOf2 (by decide) rfl) rfl) (.p .h (.p .h (.p .h (.p .h .nil)))) ?_
  refine anyS_take (i := 11) rfl (by kernel_rfl) (by kernel_rfl) (by kernel_rfl) (by kernel_rfl) (Yq.of (v := .int .i64 (a.key.toInt)) (y_load1 rfl Try.isAgg2 (own1 (.t (.t .h)) rfl)) rfl) (.p .h (.p .h (.p .h (.p .h .nil)))) ?_
  refine anyS_take (i := 12) rfl (by kernel_rfl) (by kernel_rfl) (by kernel_rfl) (by kernel_rfl) (Yq.of (v := .pointer (some ⟨b_3, 1, none⟩)) (y_fieldAddr (o' := 1) rfl Try.underlying23 rfl Try.sizeOf2 (by decide) rfl) rfl) (.p .h (.p .h (.p .h (.p .h .nil)))) ?_
  refine anyS_take (i := 13) rfl (by kernel_rfl) (by kernel_rfl) (by kernel_rfl) (by kernel_rfl) (Yq.of (v := .int .i64 (b.key.toInt)) (y_load1 rfl Try.isAgg2 (own1 (.t .h) rfl)) rfl) (.p .h (.p .h (.p .h (.p .h .nil)))) ?_
  refine anyS_take (i := 14) rfl (by kernel_rfl) (by kernel_rfl) (by kernel_rfl) (by kernel_rfl) (Yq.of (v := .int .i64 (((if c &&& 1 = 1 then a.key else b.key)).toInt)) (y_callV (cap := #[.pointer (some ⟨b_1, 0, none⟩)]) (args := #[.int .i64 (a.key.toInt), .int .i64 (b.key.toInt)]) (args' := #[.int .i64 (a.key.toInt), .int .i64 (b.key.toInt), .pointer (some ⟨b_1, 0, none⟩)]) (v := .int .i64 (((if c &&& 1 = 1 then a.key else b.key)).toInt)) rfl Try.call146 (ev2 rfl rfl) rfl (fun w hs => pick1_c a.key b.key c b_1 w (own1 (.t (.t (.t .h))) rfl w hs))) rfl) (.p .h (.p .h (.p .h (.p .h .nil)))) ?_
  refine anyS_take (i := 15) rfl (by kernel_rfl) (by kernel_rfl) (by kernel_rfl) (by kernel_rfl) (Yq.of (v := .func (.func 146) #[] #[.pointer (some ⟨b_1, 0, none⟩)]) (y_move rfl) rfl) (.p .h (.p .h (.p .h (.p .h .nil)))) ?_
  refine anyS_take (i := 16) rfl (by kernel_rfl) (by kernel_rfl) (by kernel_rfl) (by kernel_rfl) (Yq.of (v := .pointer (some ⟨b_2, 2, none⟩)) (y_fieldAddr (o' := 2) rfl Try.underlying23 rfl Try.sizeOf2 (by decide) rfl) rfl) (.p .h (.p .h (.p .h (.p .h .nil)))) ?_
  refine anyS_take (i := 17) rfl (by kernel_rfl) (by kernel_rfl) (by kernel_rfl) (by kernel_rfl) (Yq.of (v := .int .i64 (a.value.toInt)) (y_load1 rfl Try.isAgg2 (own1 (.t (.t .h)) rfl)) rfl) (.p .h (.p .h (.p .h (.p .h .nil)))) ?_
  refine anyS_take (i := 18) rfl (by kernel_rfl) (by kernel_rfl) (by kernel_rfl) (by kernel_rfl) (Yq.of (v := .pointer (some ⟨b_3, 2, none⟩)) (y_fieldAddr (o' := 2) rfl Try.underlying23 rfl Try.sizeOf2 (by decide) rfl) rfl) (.p .h (.p .h (.p .h (.p .h .nil)))) ?_
  refine anyS_take (i := 19) rfl (by kernel_rfl) (by kernel_rfl) (by kernel_rfl) (by kernel_rfl) (Yq.of (v := .int .i64 (b.value.toInt)) (y_load1 rfl Try.isAgg2 (own1 (.t .h) rfl)) rfl) (.p .h (.p .h (.p .h (.p .h .nil)))) ?_
  refine anyS_take (i := 20) rfl (by kernel_rfl) (by kernel_rfl) (by kernel_rfl) (by kernel_rfl) (Yq.of (v := .int .i64 (((if c &&& 1 = 1 then a.value else b.value)).toInt)) (y_callV (cap := #[.pointer (some ⟨b_1, 0, none⟩)]) (args := #[.int .i64 (a.value.toInt), .int .i64 (b.value.toInt)]) (args' := #[.int .i64 (a.value.toInt), .int .i64 (b.value.toInt), .pointer (some ⟨b_1, 0, none⟩)]) (v := .int .i64 (((if c &&& 1 = 1 then a.value else b.value)).toInt)) rfl Try.call146 (ev2 rfl rfl) rfl (fun w hs => pick1_c a.value b.value c b_1 w (own1 (.t (.t (.t .h))) rfl w hs))) rfl) (.p .h (.p .h (.p .h (.p .h .nil)))) ?_
  refine anyS_take (i := 21) rfl (by kernel_rfl) (by kernel_rfl) (by kernel_rfl) (by kernel_rfl) (Yq.of (v := .func (.func 146) #[] #[.pointer (some ⟨b_1, 0, none⟩)]) (y_move rfl) rfl) (.p .h (.p .h (.p .h (.p .h .nil)))) ?_
  refine anyS_take (i := 22) rfl (by kernel_rfl) (by kernel_rfl) (by kernel_rfl) (by kernel_rfl) (Yq.of (v := .pointer (some ⟨b_2, 3, none⟩)) (y_fieldAddr (o' := 3) rfl Try.underlying23 rfl Try.sizeOf2 (by decide) rfl) rfl) (.p .h (.p .h (.p .h (.p .h .nil)))) ?_
  refine anyS_take (i := 23) rfl (by kernel_rfl) (by kernel_rfl) (by kernel_rfl) (by kernel_rfl) (Yq.of (v := .int .i64 (a.seq.toInt)) (y_load1 rfl Try.isAgg2 (own1 (.t (.t .h)) rfl)) rfl) (.p .h (.p .h (.p .h (.p .h .nil)))) ?_
  refine anyS_take (i := 24) rfl (by kernel_rfl) (by kernel_rfl) (by kernel_rfl) (by kernel_rfl) (Yq.of (v := .pointer (some ⟨b_3, 3, none⟩)) (y_fieldAddr (o' := 3) rfl Try.underlying23 rfl Try.sizeOf2 (by decide) rfl) rfl) (.p .h (.p .h (.p .h (.p .h .nil)))) ?_
  refine anyS_take (i := 25) rfl (by kernel_rfl) (by kernel_rfl) (by kernel_rfl) (by kernel_rfl) (Yq.of (v := .int .i64 (b.seq.toInt)) (y_load1 rfl Try.isAgg2 (own1 (.t .h) rfl)) rfl) (.p .h (.p .h (.p .h (.p .h .nil)))) ?_
  refine anyS_take (i := 26) rfl (by kernel_rfl) (by kernel_rfl) (by kernel_rfl) (by kernel_rfl) (Yq.of (v := .int .i64 (((if c &&& 1 = 1 then a.seq else b.seq)).toInt)) (y_callV (cap := #[.pointer (some ⟨b_1, 0, none⟩)]) (args := #[.int .i64 (a.seq.toInt), .int .i64 (b.seq.toInt)]) (args' := #[.int .i64 (a.seq.toInt), .int .i64 (b.seq.toInt), .pointer (some ⟨b_1, 0, none⟩)]) (v := .int .i64 (((if c &&& 1 = 1 then a.seq else b.seq)).toInt)) rfl Try.call146 (ev2 rfl rfl) rfl (fun w hs => pick1_c a.seq b.seq c b_1 w (own1 (.t (.t (.t .h))) rfl w hs))) rfl) (.p .h (.p .h (.p .h (.p .h .nil)))) ?_
  refine anyS_take (i := 27) rfl (by kernel_rfl) (by kernel_rfl) (by kernel_rfl) (by kernel_rfl) (Yq.of (v := .agg #[.bool (decide ((if c &&& 1 = 1 then b64 a.dead else b64 b.dead) = 1)), .int .i64 (((if c &&& 1 = 1 then a.key else b.key)).toInt), .int .i64 (((if c &&& 1 = 1 then a.value else b.value)).toInt), .int .i64 (((if c &&& 1 = 1 then a.seq else b.seq)).toInt)]) (y_buildL (m := [(0, .bool (decide ((if c &&& 1 = 1 then b64 a.dead else b64 b.dead) = 1))), (1, .int .i64 (((if c &&& 1 = 1 then a.key else b.key)).toInt)), (2, .int .i64 (((if c &&& 1 = 1 then a.value else b.value)).toInt)), (3, .int .i64 (((if c &&& 1 = 1 then a.seq else b.seq)).toInt))]) (vs := #[.bool (decide ((if c &&& 1 = 1 then b64 a.dead else b64 b.dead) = 1)), .int .i64 (((if c &&& 1 = 1 then a.key else b.key)).toInt), .int .i64 (((if c &&& 1 = 1 then a.value else b.value)).toInt), .int .i64 (((if c &&& 1 = 1 then a.seq else b.seq)).toInt)]) (evc rfl (evc rfl (evc rfl (evc rfl evn)))) (fun w => by kernel_rfl)) rfl) (.p .h (.p .h (.p .h (.p .h .nil)))) ?_
  refine anyS_all (rs := [28]) (by kernel_rfl) (by simp) ?_
  intro i hi; obtain rfl := List.mem_singleton.1 hi; clear hi
  refine opS_0 rfl rfl ?_
  refine e_store (vs := [.bool (decide ((if c &&& 1 = 1 then b64 a.dead else b64 b.dead) = 1)), .int .i64 (((if c &&& 1 = 1 then a.key else b.key)).toInt), .int .i64 (((if c &&& 1 = 1 then a.value else b.value)).toInt), .int .i64 (((if c &&& 1 = 1 then a.seq else b.seq)).toInt)]) (l' := [.bool (decide ((if c &&& 1 = 1 then b64 a.dead else b64 b.dead) = 1)), .int .i64 (((if c &&& 1 = 1 then a.key else b.key)).toInt), .int .i64 (((if c &&& 1 = 1 then a.value else b.value)).toInt), .int .i64 (((if c &&& 1 = 1 then a.seq else b.seq)).toInt)]) rfl rfl rfl rfl Try.sizeOf23 .h (Nat.le_of_ble_eq_true rfl) rfl ?_
  refine ⟨.inl (by simp), ?_⟩
  refine anyS_done (by kernel_rfl) ?_
  refine thenS_n ?_
  refine wpS_ret ?_
  refine fin1' (M := [cel b_4 23 [.bool (decide ((if c &&& 1 = 1 then b64 a.dead else b64 b.dead) = 1)), .int .i64 (((if c &&& 1 = 1 then a.key else b.key)).toInt), .int .i64 (((if c &&& 1 = 1 then a.value else b.value)).toInt), .int .i64 (((if c &&& 1 = 1 then a.seq else b.seq)).toInt)]]) (.inr rfl) (.p .h .nil) Try.results47 (rvC (vs := [.bool (decide ((if c &&& 1 = 1 then b64 a.dead else b64 b.dead) = 1)), .int .i64 (((if c &&& 1 = 1 then a.key else b.key)).toInt), .int .i64 (((if c &&& 1 = 1 then a.value else b.value)).toInt), .int .i64 (((if c &&& 1 = 1 then a.seq else b.seq)).toInt)]) rfl Try.isAgg23 Try.sizeOf23 (fun w hs => ownN .h rfl w hs)) ?_
  intro w' hs; exact ⟨(by rw [pickR_eq]), SH.dropAll (L := []) [_] hs⟩

theorem awake09_c (w : World) : Pure Try.prog 44 #[] w (.bool true) := by
  refine calls_S (n := 9) (σ0 := fr0) (D := []) (A := []) Try.func44 rfl Try.ntmps44 rfl (a0_fr) (SH.start w) ?_
  refine wpS_seq ?_
  refine wpS_region ?_
  refine s_y (v := .bool false) (y_assign rfl) rfl ?_
  refine wpL_nil ?_
  refine thenS_n ?_
  refine wpS_seq ?_
  refine wpS_region ?_
  refine s_y (v := .agg #[.bool false, .int .i64 1, .int .i64 0, .int .i64 0]) (y_buildL (m := [(1, .int .i64 1)]) (vs := #[.bool false, .int .i64 1, .int .i64 0, .int .i64 0]) (evc rfl evn) (fun w => by kernel_rfl)) rfl ?_
  refine s_y (v := .agg #[.bool (deadR.dead), .int .i64 (deadR.key.toInt), .int .i64 (deadR.value.toInt), .int .i64 (deadR.seq.toInt)]) (y_call (args := #[]) (v := .agg #[.bool (deadR.dead), .int .i64 (deadR.key.toInt), .int .i64 (deadR.value.toInt), .int .i64 (deadR.seq.toInt)]) Try.call49 ev0 (fun w hs => dead_c w)) rfl ?_
  refine s_y (v := .int .u64 ((b64 (before (Rec.mk false 1 0 0) deadR)).toNat)) (y_call (args := #[.agg #[.bool false, .int .i64 1, .int .i64 0, .int .i64 0], .agg #[.bool (deadR.dead), .int .i64 (deadR.key.toInt), .int .i64 (deadR.value.toInt), .int .i64 (deadR.seq.toInt)]]) (v := .int .u64 ((b64 (before (Rec.mk false 1 0 0) deadR)).toNat)) Try.call42 (ev2 rfl rfl) (fun w hs => before_c (Rec.mk false 1 0 0) deadR w)) rfl ?_
  refine s_y (v := .bool (decide ((b64 (before (Rec.mk false 1 0 0) deadR)) = 1))) (y_eql (a := (b64 (before (Rec.mk false 1 0 0) deadR)).toNat) (b := 1) (c := decide ((b64 (before (Rec.mk false 1 0 0) deadR)) = 1)) rfl rfl (u_eqlL _ 1 (by decide))) rfl ?_
  refine s_y (v := .bool (decide ((b64 (before (Rec.mk false 1 0 0) deadR)) = 1))) (y_move rfl) rfl ?_
  refine s_gy (y_call (args := #[]) (v := .agg #[.bool (deadR.dead), .int .i64 (deadR.key.toInt), .int .i64 (deadR.value.toInt), .int .i64 (deadR.seq.toInt)]) Try.call49 ev0 (fun w hs => dead_c w)) rfl rfl rfl rfl (b' := decide ((b64 (before (Rec.mk false 1 0 0) deadR)) = 1)) rfl (by decide) ?_
  refine s_gy (y_fieldL (vs := #[.bool (deadR.dead), .int .i64 (deadR.key.toInt), .int .i64 (deadR.value.toInt), .int .i64 (deadR.seq.toInt)]) (v := .bool (deadR.dead)) rfl (fun w => by kernel_rfl)) rfl rfl rfl rfl (b' := decide ((b64 (before (Rec.mk false 1 0 0) deadR)) = 1)) rfl (by decide) ?_
  refine s_y (v := .bool (deadR.dead)) (y_pickT (b := decide ((b64 (before (Rec.mk false 1 0 0) deadR)) = 1)) (v := .bool (deadR.dead)) rfl (by decide) rfl) rfl ?_
  refine s_y (v := .bool (deadR.dead)) (y_assign rfl) rfl ?_
  refine wpL_nil ?_
  refine thenS_n ?_
  refine wpS_ret ?_
  refine fin1 (v := .bool (deadR.dead)) (.inr rfl) .nil Try.results44 rfl ?_
  exact fun w' hs => ⟨rfl, hs⟩

end Go.Proofs.Ytldkjjnjdjfipaa
