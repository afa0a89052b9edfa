/- merge: what stands, and a copy; walked. -/
import Derived.Test.YtldkjjnjdjfipaaSlc
import Derived.Test.YtldkjjnjdjfipaaWRec
namespace Go.Proofs.Ytldkjjnjdjfipaa
open Go Go.RowKit
set_option linter.unusedVariables false
set_option linter.unusedSimpArgs false
set_option maxRecDepth 10000

/-- the order that a sort is asked for -/
def ahd (sq : Bool) (a b : Rec) : Bool := if sq then before a b else ahead a b

theorem stands_c (a b : Rec) (q : Bool) (w : World) : Pure Try.prog 169 #[.agg #[.bool (a.dead), .int .i64 (a.key.toInt), .int .i64 (a.value.toInt), .int .i64 (a.seq.toInt)], .agg #[.bool (b.dead), .int .i64 (b.key.toInt), .int .i64 (b.value.toInt), .int .i64 (b.seq.toInt)], .bool q] w (.int .u64 ((b64 (ahd q b a)).toNat)) := by
  refine calls_S (n := 14) (σ0 := (upd (upd (upd fr0 0 (.agg #[.bool (a.dead), .int .i64 (a.key.toInt), .int .i64 (a.value.toInt), .int .i64 (a.seq.toInt)])) 1 (.agg #[.bool (b.dead), .int .i64 (b.key.toInt), .int .i64 (b.value.toInt), .int .i64 (b.seq.toInt)])) 2 (.bool q))) (D := []) (A := []) Try.func169 rfl Try.ntmps169 rfl (a3_fr _ _ _) (SH.start w) ?_
  refine wpS_seq ?_
  refine wpS_region ?_
  refine s_e rfl ?_
  refine e_box (v := .agg #[.bool (a.dead), .int .i64 (a.key.toInt), .int .i64 (a.value.toInt), .int .i64 (a.seq.toInt)]) (l := [.bool (a.dead), .int .i64 (a.key.toInt), .int .i64 (a.value.toInt), .int .i64 (a.seq.toInt)]) rfl rfl ?_
  intro b_1
  refine s_e rfl ?_
  refine e_box (v := .agg #[.bool (b.dead), .int .i64 (b.key.toInt), .int .i64 (b.value.toInt), .int .i64 (b.seq.toInt)]) (l := [.bool (b.dead), .int .i64 (b.key.toInt), .int .i64 (b.value.toInt), .int .i64 (b.seq.toInt)]) rfl rfl ?_
  intro b_2
  refine s_y (v := .int .u64 0) (y_assign rfl) rfl ?_
  refine wpL_nil ?_
  refine thenS_n ?_
  refine wpS_seq ?_
  refine wpS_seq ?_
  refine wpS_region ?_
  refine s_y (v := .bool q) (y_move rfl) rfl ?_
  refine wpL_nil ?_
  refine thenS_n ?_
  refine wpS_cond (t := q) rfl (fun b3 => ?_) (fun b3 => ?_)
  · -- q true
    refine wpS_seq ?_
    refine wpS_region ?_
    refine s_y (v := .agg #[.bool (b.dead), .int .i64 (b.key.toInt), .int .i64 (b.value.toInt), .int .i64 (b.seq.toInt)]) (y_loadN (vs := [.bool (b.dead), .int .i64 (b.key.toInt), .int .i64 (b.value.toInt), .int .i64 (b.seq.toInt)]) rfl Try.isAgg23 Try.sizeOf23 (ownN .h rfl)) rfl ?_
    refine s_y (v := .agg #[.bool (a.dead), .int .i64 (a.key.toInt), .int .i64 (a.value.toInt), .int .i64 (a.seq.toInt)]) (y_loadN (vs := [.bool (a.dead), .int .i64 (a.key.toInt), .int .i64 (a.value.toInt), .int .i64 (a.seq.toInt)]) rfl Try.isAgg23 Try.sizeOf23 (ownN (.t .h) rfl)) rfl ?_
    refine s_y (v := .int .u64 ((b64 (before b a)).toNat)) (y_call (args := #[.agg #[.bool (b.dead), .int .i64 (b.key.toInt), .int .i64 (b.value.toInt), .int .i64 (b.seq.toInt)], .agg #[.bool (a.dead), .int .i64 (a.key.toInt), .int .i64 (a.value.toInt), .int .i64 (a.seq.toInt)]]) (v := .int .u64 ((b64 (before b a)).toNat)) Try.call42 (ev2 rfl rfl) (fun w hs => before_c b a w)) rfl ?_
    refine s_y (v := .int .u64 ((b64 (before b a)).toNat)) (y_assign rfl) rfl ?_
    refine wpL_nil ?_
    refine thenS_n ?_
    refine wpS_ret ?_
    refine thenS_r ?_
    refine fin1 (v := .int .u64 ((b64 (before b a)).toNat)) (.inr rfl) .nil Try.results169 rfl ?_
    exact fun w' hs => ⟨(by simp [ahd, *]), hs⟩
  · -- q false
    refine wpS_skip ?_
    refine thenS_n ?_
    refine wpS_seq ?_
    refine wpS_region ?_
    refine s_y (v := .agg #[.bool (b.dead), .int .i64 (b.key.toInt), .int .i64 (b.value.toInt), .int .i64 (b.seq.toInt)]) (y_loadN (vs := [.bool (b.dead), .int .i64 (b.key.toInt), .int .i64 (b.value.toInt), .int .i64 (b.seq.toInt)]) rfl Try.isAgg23 Try.sizeOf23 (ownN .h rfl)) rfl ?_
    refine s_y (v := .agg #[.bool (a.dead), .int .i64 (a.key.toInt), .int .i64 (a.value.toInt), .int .i64 (a.seq.toInt)]) (y_loadN (vs := [.bool (a.dead), .int .i64 (a.key.toInt), .int .i64 (a.value.toInt), .int .i64 (a.seq.toInt)]) rfl Try.isAgg23 Try.sizeOf23 (ownN (.t .h) rfl)) rfl ?_
    refine s_y (v := .int .u64 ((b64 (ahead b a)).toNat)) (y_call (args := #[.agg #[.bool (b.dead), .int .i64 (b.key.toInt), .int .i64 (b.value.toInt), .int .i64 (b.seq.toInt)], .agg #[.bool (a.dead), .int .i64 (a.key.toInt), .int .i64 (a.value.toInt), .int .i64 (a.seq.toInt)]]) (v := .int .u64 ((b64 (ahead b a)).toNat)) Try.call43 (ev2 rfl rfl) (fun w hs => ahead_c b a w)) rfl ?_
    refine s_y (v := .int .u64 ((b64 (ahead b a)).toNat)) (y_assign rfl) rfl ?_
    refine wpL_nil ?_
    refine thenS_n ?_
    refine wpS_ret ?_
    refine fin1 (v := .int .u64 ((b64 (ahead b a)).toNat)) (.inr rfl) .nil Try.results169 rfl ?_
    exact fun w' hs => ⟨(by simp [ahd, *]), hs⟩

theorem clone_c (a : Option Addr) (n c : Nat) (l : List Rec) (w : World) (hn : l.length = n) (hr : Rds w a (l.flatMap recV)) (hb : n ≤ 1000000) : MakesS Try.prog 168 #[.slice a n c] w [] recV 4 23 l := by
  refine calls_S (n := 8) (σ0 := (upd fr0 0 (.slice a n c))) (D := []) (A := []) Try.func168 rfl Try.ntmps168 rfl (a1_fr _) (SH.start w) ?_
  refine wpS_seq ?_
  refine wpS_region ?_
  refine s_y (v := .slice none 0 0) (y_assign rfl) rfl ?_
  refine wpL_nil ?_
  refine thenS_n ?_
  refine wpS_seq ?_
  refine wpS_seq ?_
  refine wpS_region ?_
  refine s_y (v := .slice a n c) (y_move rfl) rfl ?_
  refine s_y (v := .bool ((a).isNone)) (y_isNil rfl rfl Try.underlying69 (by kernel_rfl)) rfl ?_
  refine wpL_nil ?_
  refine thenS_n ?_
  refine wpS_cond (t := (a).isNone) rfl (fun b1 => ?_) (fun b1 => ?_)
  · -- (a).isNone true
    have hn_nil : a = none := by simpa using b1
    refine wpS_seq ?_
    refine wpS_region ?_
    refine s_y (v := .slice none 0 0) (y_assign rfl) rfl ?_
    refine wpL_nil ?_
    refine thenS_n ?_
    refine wpS_ret ?_
    refine thenS_r ?_
    refine finNil (.inr rfl) .nil Try.results168 rfl (sz := 4) (ty := 23) ?_
    exact fun w' hs => ⟨(none, 0), by rw [show l = [] from (rds_none recV_len (by decide) hr hn_nil)]; rfl, by rw [show l = [] from (rds_none recV_len (by decide) hr hn_nil)]; exact hs, trivial⟩
  · -- (a).isNone false
    refine wpS_skip ?_
    refine thenS_n ?_
    refine wpS_seq ?_
    refine wpS_region ?_
    refine s_e rfl ?_
    refine e_bsliceL (e := 23) (m := []) (l := []) evn (fun w => by kernel_rfl) ?_
    intro b_2
    refine s_y (v := .slice a n c) (y_move rfl) rfl ?_
    refine s_e rfl ?_
    refine OpE.ent (SH.celO (n := 0) (sz := 4) .h rfl (by decide)) ?_
    refine e_appendL (enc := recV) (xs := ([] : List Rec)) (ns := (l : List Rec)) (zs := l) (bytes := 32) recV_len recV_one Try.underlying69 (i := Try.t23) rfl rfl rfl rfl rfl (by decide) rfl rfl (by first | rfl | omega) (by first | rfl | omega) .h (oldR hr) (by first | rfl | simp) (by (try simp only [List.length_append, List.length_cons, List.length_nil] at *); omega) (by (try simp only [List.length_append, List.length_cons, List.length_nil] at *); omega) ?_
    intro a_4 c_5
    refine s_y (v := .slice a_4 l.length c_5) (y_assign rfl) rfl ?_
    refine wpL_nil ?_
    refine thenS_n ?_
    refine wpS_ret ?_
    refine fin1 (M := [osl a_4 c_5 l.length 4 23 (l.flatMap recV)]) (v := .slice a_4 l.length c_5) (.inr rfl) (.p .h .nil) Try.results168 rfl ?_
    exact fun w' hs => ⟨(a_4, c_5), rfl, hs, trivial⟩

end Go.Proofs.Ytldkjjnjdjfipaa
