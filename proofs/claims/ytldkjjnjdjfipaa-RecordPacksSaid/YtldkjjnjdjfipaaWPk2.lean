/- record.Pack, walked. -/
import Derived.Test.YtldkjjnjdjfipaaWPk1
namespace Go.Proofs.Ytldkjjnjdjfipaa
open Go Go.RowKit
set_option linter.unusedVariables false
set_option linter.unusedSimpArgs false
set_option maxRecDepth 10000
set_option maxHeartbeats 1000000

def wordsOf (r : Rec) : List UInt64 := [b64 r.dead, r.key.toUInt64, r.value.toUInt64, r.seq.toUInt64]
theorem words_take (r : Rec) : (words r).take 4 = words r := List.take_of_length_le (by rw [words_len]; exact Nat.le_refl _)
theorem words_live {r : Rec} (h : r.dead = false) : wordsOf r = words r := by unfold wordsOf words; rw [h]; rfl
theorem words_dead {r : Rec} (h : r.dead = true) : wordsOf deadR = words r := by unfold words; rw [h]; rfl
theorem fl32 (r : Rec) : ((leAll ((wordsOf r).take 4)).flatMap byteV).length = 32 := by rw [fl_len byteV_len, leAll_len]; rfl

theorem pack_c (r : Rec) (w : World) : Pure Try.prog 48 #[.agg (recV r).toArray] w (.agg ((packB r).flatMap byteV).toArray) := by
  refine calls_S (n := 31) (σ0 := (upd fr0 0 (.agg #[.bool (r.dead), .int .i64 (r.key.toInt), .int .i64 (r.value.toInt), .int .i64 (r.seq.toInt)]))) (D := []) (A := []) Try.func48 rfl Try.ntmps48 rfl (a1_fr _) (SH.start w) ?_
  refine wpS_seq ?_
  refine wpS_region ?_
  refine s_e rfl ?_
  refine e_box (v := .agg #[.bool (r.dead), .int .i64 (r.key.toInt), .int .i64 (r.value.toInt), .int .i64 (r.seq.toInt)]) (l := [.bool (r.dead), .int .i64 (r.key.toInt), .int .i64 (r.value.toInt), .int .i64 (r.seq.toInt)]) rfl rfl ?_
  intro b_1
  refine s_e rfl ?_
  refine e_alloc (l := [.int .u8 0, .int .u8 0, .int .u8 0, .int .u8 0, .int .u8 0, .int .u8 0, .int .u8 0, .int .u8 0, .int .u8 0, .int .u8 0, .int .u8 0, .int .u8 0, .int .u8 0, .int .u8 0, .int .u8 0, .int .u8 0, .int .u8 0, .int .u8 0, .int .u8 0, .int .u8 0, .int .u8 0, .int .u8 0, .int .u8 0, .int .u8 0, .int .u8 0, .int .u8 0, .int .u8 0, .int .u8 0, .int .u8 0, .int .u8 0, .int .u8 0, .int .u8 0]) Try.zeroValue30 rfl ?_
  intro b_2
  refine wpL_nil ?_
  refine thenS_n ?_
  refine wpS_seq ?_
  refine wpS_seq ?_
  refine wpS_region ?_
  refine s_y (v := .pointer (some ⟨b_1, 0, none⟩)) (y_fieldAddr (o' := 0) rfl Try.underlying23 rfl Try.sizeOf4 (by decide) rfl) rfl ?_
  refine s_y (v := .bool (r.dead)) (y_load1 rfl Try.isAgg4 (own1 (.t .h) rfl)) rfl ?_
  refine wpL_nil ?_
  refine thenS_n ?_
  refine wpS_cond (t := r.dead) rfl (fun b3 => ?_) (fun b3 => ?_)
  · -- r.dead true
    refine wpS_region ?_
    refine s_y (v := .agg #[.bool (deadR.dead), .int .i64 (deadR.key.toInt), .int .i64 (deadR.value.toInt), .int .i64 (deadR.seq.toInt)]) (y_call (args := #[]) (v := .agg #[.bool (deadR.dead), .int .i64 (deadR.key.toInt), .int .i64 (deadR.value.toInt), .int .i64 (deadR.seq.toInt)]) Try.call49 ev0 (fun w hs => dead_c w)) rfl ?_
    refine s_e0 ?_
    refine e_store (vs := [.bool (deadR.dead), .int .i64 (deadR.key.toInt), .int .i64 (deadR.value.toInt), .int .i64 (deadR.seq.toInt)]) (l' := [.bool (deadR.dead), .int .i64 (deadR.key.toInt), .int .i64 (deadR.value.toInt), .int .i64 (deadR.seq.toInt)]) rfl rfl rfl rfl Try.sizeOf23 (.t .h) (Nat.le_of_ble_eq_true rfl) rfl ?_
    refine wpL_nil ?_
    refine thenS_n ?_
    refine wpS_seq ?_
    refine wpS_region ?_
    refine s_e rfl ?_
    refine e_alloc (l := [.slice none 0 0]) Try.zeroValue61 rfl ?_
    intro b_4
    refine wpL_nil ?_
    refine thenS_n ?_
    refine wpS_seq ?_
    refine wpS_seq ?_
    refine wpS_anyL [cel b_1 23 [.bool (deadR.dead), .int .i64 (deadR.key.toInt), .int .i64 (deadR.value.toInt), .int .i64 (deadR.seq.toInt)]] [] (by kernel_rfl) ?_
    refine anyS_take (i := 0) rfl (by kernel_rfl) (by kernel_rfl) (by kernel_rfl) (by kernel_rfl) (Yq.of (v := .pointer (some ⟨b_1, 0, none⟩)) (y_fieldAddr (o' := 0) rfl Try.underlying23 rfl Try.sizeOf4 (by decide) rfl) rfl) (.p (.t .h) .nil) ?_
    refine anyS_take (i := 1) rfl (by kernel_rfl) (by kernel_rfl) (by kernel_rfl) (by kernel_rfl) (Yq.of (v := .bool (deadR.dead)) (y_load1 rfl Try.isAgg4 (own1 .h rfl)) rfl) (.p (.t .h) .nil) ?_
    refine anyS_take (i := 2) rfl (by kernel_rfl) (by kernel_rfl) (by kernel_rfl) (by kernel_rfl) (Yq.of (v := .int .u64 ((b64 deadR.dead).toNat)) (y_call (args := #[.bool (deadR.dead)]) (v := .int .u64 ((b64 deadR.dead).toNat)) Try.call142 (ev1 rfl) (fun w hs => bit_c deadR.dead w)) rfl) (.p (.t .h) .nil) ?_
    refine anyS_take (i := 3) rfl (by kernel_rfl) (by kernel_rfl) (by kernel_rfl) (by kernel_rfl) (Yq.of (v := .pointer (some ⟨b_1, 1, none⟩)) (y_fieldAddr (o' := 1) rfl Try.underlying23 rfl Try.sizeOf2 (by decide) rfl) rfl) (.p (.t .h) .nil) ?_
    refine anyS_take (i := 4) rfl (by kernel_rfl) (by kernel_rfl) (by kernel_rfl) (by kernel_rfl) (Yq.of (v := .int .i64 (deadR.key.toInt)) (y_load1 rfl Try.isAgg2 (own1 .h rfl)) rfl) (.p (.t .h) .nil) ?_
    refine anyS_take (i := 5) rfl (by kernel_rfl) (by kernel_rfl) (by kernel_rfl) (by kernel_rfl) (Yq.of (v := .int .u64 ((deadR.key.toUInt64).toNat)) (y_convI (a := deadR.key.toInt) (c := (deadR.key.toUInt64).toNat) rfl Try.underlying2 Try.underlying24 (iu_conv _)) rfl) (.p (.t .h) .nil) ?_
    refine anyS_take (i := 6) rfl (by kernel_rfl) (by kernel_rfl) (by kernel_rfl) (by kernel_rfl) (Yq.of (v := .pointer (some ⟨b_1, 2, none⟩)) (y_fieldAddr (o' := 2) rfl Try.underlying23 rfl Try.sizeOf2 (by decide) rfl) rfl) (.p (.t .h) .nil) ?_
    refine anyS_take (i := 7) rfl (by kernel_rfl) (by kernel_rfl) (by kernel_rfl) (by kernel_rfl) (Yq.of (v := .int .i64 (deadR.value.toInt)) (y_load1 rfl Try.isAgg2 (own1 .h rfl)) rfl) (.p (.t .h) .nil) ?_
    refine anyS_take (i := 8) rfl (by kernel_rfl) (by kernel_rfl) (by kernel_rfl) (by kernel_rfl) (Yq.of (v := .int .u64 ((deadR.value.toUInt64).toNat)) (y_convI (a := deadR.value.toInt) (c := (deadR.value.toUInt64).toNat) rfl Try.underlying2 Try.underlying24 (iu_conv _)) rfl) (.p (.t .h) .nil) ?_
    refine anyS_take (i := 9) rfl (by kernel_rfl) (by kernel_rfl) (by kernel_rfl) (by kernel_rfl) (Yq.of (v := .pointer (some ⟨b_1, 3, none⟩)) (y_fieldAddr (o' := 3) rfl Try.underlying23 rfl Try.sizeOf2 (by decide) rfl) rfl) (.p (.t .h) .nil) ?_
    refine anyS_take (i := 10) rfl (by kernel_rfl) (by kernel_rfl) (by kernel_rfl) (by kernel_rfl) (Yq.of (v := .int .i64 (deadR.seq.toInt)) (y_load1 rfl Try.isAgg2 (own1 .h rfl)) rfl) (.p (.t .h) .nil) ?_
    refine anyS_take (i := 11) rfl (by kernel_rfl) (by kernel_rfl) (by kernel_rfl) (by kernel_rfl) (Yq.of (v := .int .u64 ((deadR.seq.toUInt64).toNat)) (y_convI (a := deadR.seq.toInt) (c := (deadR.seq.toUInt64).toNat) rfl Try.underlying2 Try.underlying24 (iu_conv _)) rfl) (.p (.t .h) .nil) ?_
    refine anyS_all (rs := [12]) (by kernel_rfl) (by simp) ?_
    intro i hi; obtain rfl := List.mem_singleton.1 hi; clear hi
    refine opS_0 rfl rfl ?_
    refine e_bsliceL (e := 24) (m := [(0, .int .u64 ((b64 deadR.dead).toNat)), (1, .int .u64 ((deadR.key.toUInt64).toNat)), (2, .int .u64 ((deadR.value.toUInt64).toNat)), (3, .int .u64 ((deadR.seq.toUInt64).toNat))]) (l := [.int .u64 ((b64 deadR.dead).toNat), .int .u64 ((deadR.key.toUInt64).toNat), .int .u64 ((deadR.value.toUInt64).toNat), .int .u64 ((deadR.seq.toUInt64).toNat)]) (evc rfl (evc rfl (evc rfl (evc rfl evn)))) (fun w => by kernel_rfl) ?_
    intro b_5
    refine ⟨.inr (.p (.t (.t .h)) .nil), ?_⟩
    refine anyS_all (rs := [13]) (by kernel_rfl) (by simp) ?_
    intro i hi; obtain rfl := List.mem_singleton.1 hi; clear hi
    refine opS_0 rfl rfl ?_
    refine e_call (f := 148) (args := #[.slice (some ⟨b_5, 0, none⟩) 4 4]) (X := Nat) (A := []) (M := [cel b_5 24 [.int .u64 ((b64 deadR.dead).toNat), .int .u64 ((deadR.key.toUInt64).toNat), .int .u64 ((deadR.value.toUInt64).toNat), .int .u64 ((deadR.seq.toUInt64).toNat)], cel b_4 61 [.slice none 0 0], cel b_1 23 [.bool (deadR.dead), .int .i64 (deadR.key.toInt), .int .i64 (deadR.value.toInt), .int .i64 (deadR.seq.toInt)], cel b_2 30 [.int .u8 0, .int .u8 0, .int .u8 0, .int .u8 0, .int .u8 0, .int .u8 0, .int .u8 0, .int .u8 0, .int .u8 0, .int .u8 0, .int .u8 0, .int .u8 0, .int .u8 0, .int .u8 0, .int .u8 0, .int .u8 0, .int .u8 0, .int .u8 0, .int .u8 0, .int .u8 0, .int .u8 0, .int .u8 0, .int .u8 0, .int .u8 0, .int .u8 0, .int .u8 0, .int .u8 0, .int .u8 0, .int .u8 0, .int .u8 0, .int .u8 0, .int .u8 0]]) (V := fun x : Nat => .func (.func 217) #[] #[.pointer (some ⟨x, 0, none⟩)]) (A' := fun x : Nat => [cel x 175 [.slice (some ⟨b_5, 0, none⟩) 4 4]]) (C := fun _ => True) Try.call148 (ev1 rfl) (.p .h (.p .h (.p .h (.p .h .nil)))) (fun w hs => all64_c (some ⟨b_5, 0, none⟩) 4 4 w) ?_
    rintro b_6 -
    refine ⟨.inr (.p (.t (.t (.t .h))) .nil), ?_⟩
    refine anyS_done (by kernel_rfl) ?_
    refine thenS_n ?_
    refine wpS_block ?_
    refine wpS_nil0 1 5 ?_
    refine wpS_rangeFunc (f := 217) (cap := #[.pointer (some ⟨b_6, 0, none⟩)]) (enc := fun k => #[.int .i64 ((k : Nat) : Int), .int .u64 ((((([b64 deadR.dead, deadR.key.toUInt64, deadR.value.toUInt64, deadR.seq.toUInt64]).getD k default))).toNat)]) (N := 4) (rd := fun z => z = b_6 ∨ 0 < ([b64 deadR.dead, deadR.key.toUInt64, deadR.value.toUInt64, deadR.seq.toUInt64]).length ∧ z = aB (some ⟨b_5, 0, none⟩)) (A := [osl none 0 0 1 5 (([] : List UInt8).flatMap byteV), cel b_4 61 [.slice none 0 0], cel b_1 23 [.bool (deadR.dead), .int .i64 (deadR.key.toInt), .int .i64 (deadR.value.toInt), .int .i64 (deadR.seq.toInt)], cel b_2 30 [.int .u8 0, .int .u8 0, .int .u8 0, .int .u8 0, .int .u8 0, .int .u8 0, .int .u8 0, .int .u8 0, .int .u8 0, .int .u8 0, .int .u8 0, .int .u8 0, .int .u8 0, .int .u8 0, .int .u8 0, .int .u8 0, .int .u8 0, .int .u8 0, .int .u8 0, .int .u8 0, .int .u8 0, .int .u8 0, .int .u8 0, .int .u8 0, .int .u8 0, .int .u8 0, .int .u8 0, .int .u8 0, .int .u8 0, .int .u8 0, .int .u8 0, .int .u8 0]]) (M := [cel b_6 175 [.slice (some ⟨b_5, 0, none⟩) 4 4], cel b_5 24 [.int .u64 ((b64 deadR.dead).toNat), .int .u64 ((deadR.key.toUInt64).toNat), .int .u64 ((deadR.value.toUInt64).toNat), .int .u64 ((deadR.seq.toUInt64).toNat)]]) (fun k A => ∃ a1 : Option Addr, ∃ c1 : Nat, A = [osl a1 c1 ((leAll ([b64 deadR.dead, deadR.key.toUInt64, deadR.value.toUInt64, deadR.seq.toUInt64].take k)).length) 1 5 ((leAll ([b64 deadR.dead, deadR.key.toUInt64, deadR.value.toUInt64, deadR.seq.toUInt64].take k)).flatMap byteV), cel b_4 61 [.slice a1 ((leAll ([b64 deadR.dead, deadR.key.toUInt64, deadR.value.toUInt64, deadR.seq.toUInt64].take k)).length) c1], cel b_1 23 [.bool (deadR.dead), .int .i64 (deadR.key.toInt), .int .i64 (deadR.value.toInt), .int .i64 (deadR.seq.toInt)], cel b_2 30 [.int .u8 0, .int .u8 0, .int .u8 0, .int .u8 0, .int .u8 0, .int .u8 0, .int .u8 0, .int .u8 0, .int .u8 0, .int .u8 0, .int .u8 0, .int .u8 0, .int .u8 0, .int .u8 0, .int .u8 0, .int .u8 0, .int .u8 0, .int .u8 0, .int .u8 0, .int .u8 0, .int .u8 0, .int .u8 0, .int .u8 0, .int .u8 0, .int .u8 0, .int .u8 0, .int .u8 0, .int .u8 0, .int .u8 0, .int .u8 0, .int .u8 0, .int .u8 0]]) (fun k e A => False) rfl Try.call217 (by kernel_rfl) (fun _ => rfl) (.p .h (.p (.t (.t .h)) (.p (.t (.t .h)) (.p (.t (.t .h)) (.p .h (.p .h .nil)))))) ⟨none, 0, rfl⟩ (fun w hs => (all64_at b_6 (some ⟨b_5, 0, none⟩) 4 4 ([b64 deadR.dead, deadR.key.toUInt64, deadR.value.toUInt64, deadR.seq.toUInt64]) w (own1 (.t (.t (.t (.t .h)))) rfl w hs) rfl (celR (.t (.t (.t (.t (.t .h))))) w hs) (by omega)).it) (fun w hs b hb => by rcases hb with rfl | ⟨hl, rfl⟩; exact apM (A := [osl none 0 0 1 5 (([] : List UInt8).flatMap byteV), cel b_4 61 [.slice none 0 0], cel b_1 23 [.bool (deadR.dead), .int .i64 (deadR.key.toInt), .int .i64 (deadR.value.toInt), .int .i64 (deadR.seq.toInt)], cel b_2 30 [.int .u8 0, .int .u8 0, .int .u8 0, .int .u8 0, .int .u8 0, .int .u8 0, .int .u8 0, .int .u8 0, .int .u8 0, .int .u8 0, .int .u8 0, .int .u8 0, .int .u8 0, .int .u8 0, .int .u8 0, .int .u8 0, .int .u8 0, .int .u8 0, .int .u8 0, .int .u8 0, .int .u8 0, .int .u8 0, .int .u8 0, .int .u8 0, .int .u8 0, .int .u8 0, .int .u8 0, .int .u8 0, .int .u8 0, .int .u8 0, .int .u8 0, .int .u8 0]]) hs .h (by simp [cel, blk]); exact apM (A := [osl none 0 0 1 5 (([] : List UInt8).flatMap byteV), cel b_4 61 [.slice none 0 0], cel b_1 23 [.bool (deadR.dead), .int .i64 (deadR.key.toInt), .int .i64 (deadR.value.toInt), .int .i64 (deadR.seq.toInt)], cel b_2 30 [.int .u8 0, .int .u8 0, .int .u8 0, .int .u8 0, .int .u8 0, .int .u8 0, .int .u8 0, .int .u8 0, .int .u8 0, .int .u8 0, .int .u8 0, .int .u8 0, .int .u8 0, .int .u8 0, .int .u8 0, .int .u8 0, .int .u8 0, .int .u8 0, .int .u8 0, .int .u8 0, .int .u8 0, .int .u8 0, .int .u8 0, .int .u8 0, .int .u8 0, .int .u8 0, .int .u8 0, .int .u8 0, .int .u8 0, .int .u8 0, .int .u8 0, .int .u8 0]]) hs (.t .h) (by simp [cel, blk, aB])) ?_ ?_ ?_
    · -- a round
      rintro k A' hk_7 ⟨a1, c1, rfl⟩ w_7 l_7 hs_7
      refine wpS_region ?_
      refine s_y (v := .int .u64 ((((([b64 deadR.dead, deadR.key.toUInt64, deadR.value.toUInt64, deadR.seq.toUInt64]).getD k default))).toNat)) (y_assign rfl) rfl ?_
      refine wpL_nil ?_
      refine asg_n fun w2_7 hs2_7 => ?_
      refine wpS_block ?_
      refine wpS_region ?_
      refine s_y (v := .slice a1 ((leAll ([b64 deadR.dead, deadR.key.toUInt64, deadR.value.toUInt64, deadR.seq.toUInt64].take k)).length) c1) (y_load1 rfl Try.isAgg61 (own1 (.t .h) rfl)) rfl ?_
      refine s_y (v := .int .u64 ((((([b64 deadR.dead, deadR.key.toUInt64, deadR.value.toUInt64, deadR.seq.toUInt64]).getD k default))).toNat)) (y_move rfl) rfl ?_
      refine s_e rfl ?_
      refine e_call (f := 149) (args := #[.slice a1 ((leAll ([b64 deadR.dead, deadR.key.toUInt64, deadR.value.toUInt64, deadR.seq.toUInt64].take k)).length) c1, .int .u64 ((((([b64 deadR.dead, deadR.key.toUInt64, deadR.value.toUInt64, deadR.seq.toUInt64]).getD k default))).toNat), .int .i64 8]) (X := Option Addr × Nat) (A := [osl a1 c1 ((leAll ([b64 deadR.dead, deadR.key.toUInt64, deadR.value.toUInt64, deadR.seq.toUInt64].take k)).length) 1 5 ((leAll ([b64 deadR.dead, deadR.key.toUInt64, deadR.value.toUInt64, deadR.seq.toUInt64].take k)).flatMap byteV)]) (M := [cel b_4 61 [.slice a1 ((leAll ([b64 deadR.dead, deadR.key.toUInt64, deadR.value.toUInt64, deadR.seq.toUInt64].take k)).length) c1], cel b_1 23 [.bool (deadR.dead), .int .i64 (deadR.key.toInt), .int .i64 (deadR.value.toInt), .int .i64 (deadR.seq.toInt)], cel b_2 30 [.int .u8 0, .int .u8 0, .int .u8 0, .int .u8 0, .int .u8 0, .int .u8 0, .int .u8 0, .int .u8 0, .int .u8 0, .int .u8 0, .int .u8 0, .int .u8 0, .int .u8 0, .int .u8 0, .int .u8 0, .int .u8 0, .int .u8 0, .int .u8 0, .int .u8 0, .int .u8 0, .int .u8 0, .int .u8 0, .int .u8 0, .int .u8 0, .int .u8 0, .int .u8 0, .int .u8 0, .int .u8 0, .int .u8 0, .int .u8 0, .int .u8 0, .int .u8 0]]) (V := slV ((leAll ([b64 deadR.dead, deadR.key.toUInt64, deadR.value.toUInt64, deadR.seq.toUInt64].take k)) ++ le8 ((([b64 deadR.dead, deadR.key.toUInt64, deadR.value.toUInt64, deadR.seq.toUInt64]).getD k default)))) (A' := fun x => [slR byteV 1 5 ((leAll ([b64 deadR.dead, deadR.key.toUInt64, deadR.value.toUInt64, deadR.seq.toUInt64].take k)) ++ le8 ((([b64 deadR.dead, deadR.key.toUInt64, deadR.value.toUInt64, deadR.seq.toUInt64]).getD k default))) x]) (C := fun _ => True) Try.call149 (ev3 rfl rfl rfl) (.p .h (.p .h (.p .h (.p .h .nil)))) (fun w hs => putlow_c a1 c1 (leAll ([b64 deadR.dead, deadR.key.toUInt64, deadR.value.toUInt64, deadR.seq.toUInt64].take k)) ((([b64 deadR.dead, deadR.key.toUInt64, deadR.value.toUInt64, deadR.seq.toUInt64]).getD k default)) w ((SH.dropAll [cel b_4 61 [.slice a1 ((leAll ([b64 deadR.dead, deadR.key.toUInt64, deadR.value.toUInt64, deadR.seq.toUInt64].take k)).length) c1], cel b_1 23 [.bool (deadR.dead), .int .i64 (deadR.key.toInt), .int .i64 (deadR.value.toInt), .int .i64 (deadR.seq.toInt)], cel b_2 30 [.int .u8 0, .int .u8 0, .int .u8 0, .int .u8 0, .int .u8 0, .int .u8 0, .int .u8 0, .int .u8 0, .int .u8 0, .int .u8 0, .int .u8 0, .int .u8 0, .int .u8 0, .int .u8 0, .int .u8 0, .int .u8 0, .int .u8 0, .int .u8 0, .int .u8 0, .int .u8 0, .int .u8 0, .int .u8 0, .int .u8 0, .int .u8 0, .int .u8 0, .int .u8 0, .int .u8 0, .int .u8 0, .int .u8 0, .int .u8 0, .int .u8 0, .int .u8 0]] (hs.perm List.perm_append_comm)).self) (by rw [leAll_len, List.length_take]; omega)) ?_
      rintro ⟨a_8, c_9⟩ -
      refine s_e0 ?_
      refine e_store (vs := [.slice a_8 (((leAll ([b64 deadR.dead, deadR.key.toUInt64, deadR.value.toUInt64, deadR.seq.toUInt64].take k)) ++ le8 ((([b64 deadR.dead, deadR.key.toUInt64, deadR.value.toUInt64, deadR.seq.toUInt64]).getD k default))).length) c_9]) (l' := [.slice a_8 (((leAll ([b64 deadR.dead, deadR.key.toUInt64, deadR.value.toUInt64, deadR.seq.toUInt64].take k)) ++ le8 ((([b64 deadR.dead, deadR.key.toUInt64, deadR.value.toUInt64, deadR.seq.toUInt64]).getD k default))).length) c_9]) rfl rfl rfl rfl Try.sizeOf61 (.t .h) (Nat.le_of_ble_eq_true rfl) rfl ?_
      refine wpL_nil ?_
      refine blockS_n ?_
      rw [leAll_next [b64 deadR.dead, deadR.key.toUInt64, deadR.value.toUInt64, deadR.seq.toUInt64] k (by simp only [List.length_cons, List.length_nil]; omega)]
      exact rnd_n ⟨[osl a_8 c_9 ((leAll ([b64 deadR.dead, deadR.key.toUInt64, deadR.value.toUInt64, deadR.seq.toUInt64].take (k + 1))).length) 1 5 ((leAll ([b64 deadR.dead, deadR.key.toUInt64, deadR.value.toUInt64, deadR.seq.toUInt64].take (k + 1))).flatMap byteV), cel b_4 61 [.slice a_8 ((leAll ([b64 deadR.dead, deadR.key.toUInt64, deadR.value.toUInt64, deadR.seq.toUInt64].take (k + 1))).length) c_9], cel b_1 23 [.bool (deadR.dead), .int .i64 (deadR.key.toInt), .int .i64 (deadR.value.toInt), .int .i64 (deadR.seq.toInt)], cel b_2 30 [.int .u8 0, .int .u8 0, .int .u8 0, .int .u8 0, .int .u8 0, .int .u8 0, .int .u8 0, .int .u8 0, .int .u8 0, .int .u8 0, .int .u8 0, .int .u8 0, .int .u8 0, .int .u8 0, .int .u8 0, .int .u8 0, .int .u8 0, .int .u8 0, .int .u8 0, .int .u8 0, .int .u8 0, .int .u8 0, .int .u8 0, .int .u8 0, .int .u8 0, .int .u8 0, .int .u8 0, .int .u8 0, .int .u8 0, .int .u8 0, .int .u8 0, .int .u8 0]], .p (.t .h) (.p .h (.p .h (.p .h .nil))), ⟨a_8, c_9, rfl⟩⟩
    · -- behind
      rintro d_7 A' ⟨a1, c1, rfl⟩
      refine blockS_n ?_
      refine thenS_n ?_
      refine wpS_seq ?_
      refine wpS_region ?_
      refine s_y (v := .slice a1 ((leAll ([b64 deadR.dead, deadR.key.toUInt64, deadR.value.toUInt64, deadR.seq.toUInt64].take 4)).length) c1) (y_load1 rfl Try.isAgg61 (own1 (.t (.t .h)) rfl)) rfl ?_
      refine s_y (v := .pointer (some ⟨aB a1, aO a1, none⟩)) (y_s2aR rfl Try.underlying30 (by rw [leAll_len]; exact Nat.le_of_ble_eq_true rfl) (oslR (.t .h)) (by rw [fl_len byteV_len, leAll_len]; exact Nat.le_of_ble_eq_true rfl)) rfl ?_
      refine s_y (v := .agg (((leAll ([b64 deadR.dead, deadR.key.toUInt64, deadR.value.toUInt64, deadR.seq.toUInt64].take 4)).flatMap byteV)).toArray) (y_loadW (vs := ((leAll ([b64 deadR.dead, deadR.key.toUInt64, deadR.value.toUInt64, deadR.seq.toUInt64].take 4)).flatMap byteV)) rfl Try.isAgg30 Try.sizeOf30 (by rw [fl_len byteV_len, leAll_len]; rfl) (fun w hs => rds_cells ((oslR (.t .h)) w hs))) rfl ?_
      refine s_e0 ?_
      refine e_storeW (vs := ((leAll ([b64 deadR.dead, deadR.key.toUInt64, deadR.value.toUInt64, deadR.seq.toUInt64].take 4)).flatMap byteV)) rfl rfl rfl (fl_one byteV_one _) Try.sizeOf30 (by rw [fl_len byteV_len, leAll_len]; rfl) (.t (.t (.t (.t .h)))) rfl ?_
      refine wpL_nil ?_
      refine thenS_n ?_
      refine wpS_ret ?_
      refine fin1' (M := [cel b_2 30 ((leAll ([b64 deadR.dead, deadR.key.toUInt64, deadR.value.toUInt64, deadR.seq.toUInt64].take 4)).flatMap byteV)]) (.inr rfl) (.p (.t .h) (.p .h .nil)) Try.results48 (rvCW (vs := ((leAll ([b64 deadR.dead, deadR.key.toUInt64, deadR.value.toUInt64, deadR.seq.toUInt64].take 4)).flatMap byteV)) rfl Try.isAgg30 Try.sizeOf30 (fl32 deadR) (fun w hs => ownN .h (by simp only [List.drop_zero]; exact List.take_length) w hs)) ?_
      exact fun w' hs => ⟨by rw [show [b64 deadR.dead, deadR.key.toUInt64, deadR.value.toUInt64, deadR.seq.toUInt64] = words r from (words_dead (by assumption)), words_take]; rfl, SH.dropAll (L := []) [_] hs⟩
    · -- left
      intro _ _ _ _ _ h; exact h.elim
  · -- r.dead false
    refine wpS_skip ?_
    refine thenS_n ?_
    refine wpS_seq ?_
    refine wpS_region ?_
    refine s_e rfl ?_
    refine e_alloc (l := [.slice none 0 0]) Try.zeroValue61 rfl ?_
    intro b_10
    refine wpL_nil ?_
    refine thenS_n ?_
    refine wpS_seq ?_
    refine wpS_seq ?_
    refine wpS_anyL [cel b_1 23 [.bool (r.dead), .int .i64 (r.key.toInt), .int .i64 (r.value.toInt), .int .i64 (r.seq.toInt)]] [] (by kernel_rfl) ?_
    refine anyS_take (i := 0) rfl (by kernel_rfl) (by kernel_rfl) (by kernel_rfl) (by kernel_rfl) (Yq.of (v := .pointer (some ⟨b_1, 0, none⟩)) (y_fieldAddr (o' := 0) rfl Try.underlying23 rfl Try.sizeOf4 (by decide) rfl) rfl) (.p (.t (.t .h)) .nil) ?_
    refine anyS_take (i := 1) rfl (by kernel_rfl) (by kernel_rfl) (by kernel_rfl) (by kernel_rfl) (Yq.of (v := .bool (r.dead)) (y_load1 rfl Try.isAgg4 (own1 .h rfl)) rfl) (.p (.t (.t .h)) .nil) ?_
    refine anyS_take (i := 2) rfl (by kernel_rfl) (by kernel_rfl) (by kernel_rfl) (by kernel_rfl) (Yq.of (v := .int .u64 ((b64 r.dead).toNat)) (y_call (args := #[.bool (r.dead)]) (v := .int .u64 ((b64 r.dead).toNat)) Try.call142 (ev1 rfl) (fun w hs => bit_c r.dead w)) rfl) (.p (.t (.t .h)) .nil) ?_
    refine anyS_take (i := 3) rfl (by kernel_rfl) (by kernel_rfl) (by kernel_rfl) (by kernel_rfl) (Yq.of (v := .pointer (some ⟨b_1, 1, none⟩)) (y_fieldAddr (o' := 1) rfl Try.underlying23 rfl Try.sizeOf2 (by decide) rfl) rfl) (.p (.t (.t .h)) .nil) ?_
    refine anyS_take (i := 4) rfl (by kernel_rfl) (by kernel_rfl) (by kernel_rfl) (by kernel_rfl) (Yq.of (v := .int .i64 (r.key.toInt)) (y_load1 rfl Try.isAgg2 (own1 .h rfl)) rfl) (.p (.t (.t .h)) .nil) ?_
    refine anyS_take (i := 5) rfl (by kernel_rfl) (by kernel_rfl) (by kernel_rfl) (by kernel_rfl) (Yq.of (v := .int .u64 ((r.key.toUInt64).toNat)) (y_convI (a := r.key.toInt) (c := (r.key.toUInt64).toNat) rfl Try.underlying2 Try.underlying24 (iu_conv _)) rfl) (.p (.t (.t .h)) .nil) ?_
    refine anyS_take (i := 6) rfl (by kernel_rfl) (by kernel_rfl) (by kernel_rfl) (by kernel_rfl) (Yq.of (v := .pointer (some ⟨b_1, 2, none⟩)) (y_fieldAddr (o' := 2) rfl Try.underlying23 rfl Try.sizeOf2 (by decide) rfl) rfl) (.p (.t (.t .h)) .nil) ?_
    refine anyS_take (i := 7) rfl (by kernel_rfl) (by kernel_rfl) (by kernel_rfl) (by kernel_rfl) (Yq.of (v := .int .i64 (r.value.toInt)) (y_load1 rfl Try.isAgg2 (own1 .h rfl)) rfl) (.p (.t (.t .h)) .nil) ?_
    refine anyS_take (i := 8) rfl (by kernel_rfl) (by kernel_rfl) (by kernel_rfl) (by kernel_rfl) (Yq.of (v := .int .u64 ((r.value.toUInt64).toNat)) (y_convI (a := r.value.toInt) (c := (r.value.toUInt64).toNat) rfl Try.underlying2 Try.underlying24 (iu_conv _)) rfl) (.p (.t (.t .h)) .nil) ?_
    refine anyS_take (i := 9) rfl (by kernel_rfl) (by kernel_rfl) (by kernel_rfl) (by kernel_rfl) (Yq.of (v := .pointer (some ⟨b_1, 3, none⟩)) (y_fieldAddr (o' := 3) rfl Try.underlying23 rfl Try.sizeOf2 (by decide) rfl) rfl) (.p (.t (.t .h)) .nil) ?_
    refine anyS_take (i := 10) rfl (by kernel_rfl) (by kernel_rfl) (by kernel_rfl) (by kernel_rfl) (Yq.of (v := .int .i64 (r.seq.toInt)) (y_load1 rfl Try.isAgg2 (own1 .h rfl)) rfl) (.p (.t (.t .h)) .nil) ?_
    refine anyS_take (i := 11) rfl (by kernel_rfl) (by kernel_rfl) (by kernel_rfl) (by kernel_rfl) (Yq.of (v := .int .u64 ((r.seq.toUInt64).toNat)) (y_convI (a := r.seq.toInt) (c := (r.seq.toUInt64).toNat) rfl Try.underlying2 Try.underlying24 (iu_conv _)) rfl) (.p (.t (.t .h)) .nil) ?_
    refine anyS_all (rs := [12]) (by kernel_rfl) (by simp) ?_
    intro i hi; obtain rfl := List.mem_singleton.1 hi; clear hi
    refine opS_0 rfl rfl ?_
    refine e_bsliceL (e := 24) (m := [(0, .int .u64 ((b64 r.dead).toNat)), (1, .int .u64 ((r.key.toUInt64).toNat)), (2, .int .u64 ((r.value.toUInt64).toNat)), (3, .int .u64 ((r.seq.toUInt64).toNat))]) (l := [.int .u64 ((b64 r.dead).toNat), .int .u64 ((r.key.toUInt64).toNat), .int .u64 ((r.value.toUInt64).toNat), .int .u64 ((r.seq.toUInt64).toNat)]) (evc rfl (evc rfl (evc rfl (evc rfl evn)))) (fun w => by kernel_rfl) ?_
    intro b_11
    refine ⟨.inr (.p (.t (.t (.t .h))) .nil), ?_⟩
    refine anyS_all (rs := [13]) (by kernel_rfl) (by simp) ?_
    intro i hi; obtain rfl := List.mem_singleton.1 hi; clear hi
    refine opS_0 rfl rfl ?_
    refine e_call (f := 148) (args := #[.slice (some ⟨b_11, 0, none⟩) 4 4]) (X := Nat) (A := []) (M := [cel b_11 24 [.int .u64 ((b64 r.dead).toNat), .int .u64 ((r.key.toUInt64).toNat), .int .u64 ((r.value.toUInt64).toNat), .int .u64 ((r.seq.toUInt64).toNat)], cel b_10 61 [.slice none 0 0], cel b_2 30 [.int .u8 0, .int .u8 0, .int .u8 0, .int .u8 0, .int .u8 0, .int .u8 0, .int .u8 0, .int .u8 0, .int .u8 0, .int .u8 0, .int .u8 0, .int .u8 0, .int .u8 0, .int .u8 0, .int .u8 0, .int .u8 0, .int .u8 0, .int .u8 0, .int .u8 0, .int .u8 0, .int .u8 0, .int .u8 0, .int .u8 0, .int .u8 0, .int .u8 0, .int .u8 0, .int .u8 0, .int .u8 0, .int .u8 0, .int .u8 0, .int .u8 0, .int .u8 0], cel b_1 23 [.bool (r.dead), .int .i64 (r.key.toInt), .int .i64 (r.value.toInt), .int .i64 (r.seq.toInt)]]) (V := fun x : Nat => .func (.func 217) #[] #[.pointer (some ⟨x, 0, none⟩)]) (A' := fun x : Nat => [cel x 175 [.slice (some ⟨b_11, 0, none⟩) 4 4]]) (C := fun _ => True) Try.call148 (ev1 rfl) (.p .h (.p .h (.p .h (.p .h .nil)))) (fun w hs => all64_c (some ⟨b_11, 0, none⟩) 4 4 w) ?_
    rintro b_12 -
    refine ⟨.inr (.p (.t (.t (.t (.t .h)))) .nil), ?_⟩
    refine anyS_done (by kernel_rfl) ?_
    refine thenS_n ?_
    refine wpS_block ?_
    refine wpS_nil0 1 5 ?_
    refine wpS_rangeFunc (f := 217) (cap := #[.pointer (some ⟨b_12, 0, none⟩)]) (enc := fun k => #[.int .i64 ((k : Nat) : Int), .int .u64 ((((([b64 r.dead, r.key.toUInt64, r.value.toUInt64, r.seq.toUInt64]).getD k default))).toNat)]) (N := 4) (rd := fun z => z = b_12 ∨ 0 < ([b64 r.dead, r.key.toUInt64, r.value.toUInt64, r.seq.toUInt64]).length ∧ z = aB (some ⟨b_11, 0, none⟩)) (A := [osl none 0 0 1 5 (([] : List UInt8).flatMap byteV), cel b_10 61 [.slice none 0 0], cel b_2 30 [.int .u8 0, .int .u8 0, .int .u8 0, .int .u8 0, .int .u8 0, .int .u8 0, .int .u8 0, .int .u8 0, .int .u8 0, .int .u8 0, .int .u8 0, .int .u8 0, .int .u8 0, .int .u8 0, .int .u8 0, .int .u8 0, .int .u8 0, .int .u8 0, .int .u8 0, .int .u8 0, .int .u8 0, .int .u8 0, .int .u8 0, .int .u8 0, .int .u8 0, .int .u8 0, .int .u8 0, .int .u8 0, .int .u8 0, .int .u8 0, .int .u8 0, .int .u8 0], cel b_1 23 [.bool (r.dead), .int .i64 (r.key.toInt), .int .i64 (r.value.toInt), .int .i64 (r.seq.toInt)]]) (M := [cel b_12 175 [.slice (some ⟨b_11, 0, none⟩) 4 4], cel b_11 24 [.int .u64 ((b64 r.dead).toNat), .int .u64 ((r.key.toUInt64).toNat), .int .u64 ((r.value.toUInt64).toNat), .int .u64 ((r.seq.toUInt64).toNat)]]) (fun k A => ∃ a1 : Option Addr, ∃ c1 : Nat, A = [osl a1 c1 ((leAll ([b64 r.dead, r.key.toUInt64, r.value.toUInt64, r.seq.toUInt64].take k)).length) 1 5 ((leAll ([b64 r.dead, r.key.toUInt64, r.value.toUInt64, r.seq.toUInt64].take k)).flatMap byteV), cel b_10 61 [.slice a1 ((leAll ([b64 r.dead, r.key.toUInt64, r.value.toUInt64, r.seq.toUInt64].take k)).length) c1], cel b_2 30 [.int .u8 0, .int .u8 0, .int .u8 0, .int .u8 0, .int .u8 0, .int .u8 0, .int .u8 0, .int .u8 0, .int .u8 0, .int .u8 0, .int .u8 0, .int .u8 0, .int .u8 0, .int .u8 0, .int .u8 0, .int .u8 0, .int .u8 0, .int .u8 0, .int .u8 0, .int .u8 0, .int .u8 0, .int .u8 0, .int .u8 0, .int .u8 0, .int .u8 0, .int .u8 0, .int .u8 0, .int .u8 0, .int .u8 0, .int .u8 0, .int .u8 0, .int .u8 0], cel b_1 23 [.bool (r.dead), .int .i64 (r.key.toInt), .int .i64 (r.value.toInt), .int .i64 (r.seq.toInt)]]) (fun k e A => False) rfl Try.call217 (by kernel_rfl) (fun _ => rfl) (.p .h (.p (.t (.t .h)) (.p (.t (.t .h)) (.p (.t (.t .h)) (.p .h (.p .h .nil)))))) ⟨none, 0, rfl⟩ (fun w hs => (all64_at b_12 (some ⟨b_11, 0, none⟩) 4 4 ([b64 r.dead, r.key.toUInt64, r.value.toUInt64, r.seq.toUInt64]) w (own1 (.t (.t (.t (.t .h)))) rfl w hs) rfl (celR (.t (.t (.t (.t (.t .h))))) w hs) (by omega)).it) (fun w hs b hb => by rcases hb with rfl | ⟨hl, rfl⟩; exact apM (A := [osl none 0 0 1 5 (([] : List UInt8).flatMap byteV), cel b_10 61 [.slice none 0 0], cel b_2 30 [.int .u8 0, .int .u8 0, .int .u8 0, .int .u8 0, .int .u8 0, .int .u8 0, .int .u8 0, .int .u8 0, .int .u8 0, .int .u8 0, .int .u8 0, .int .u8 0, .int .u8 0, .int .u8 0, .int .u8 0, .int .u8 0, .int .u8 0, .int .u8 0, .int .u8 0, .int .u8 0, .int .u8 0, .int .u8 0, .int .u8 0, .int .u8 0, .int .u8 0, .int .u8 0, .int .u8 0, .int .u8 0, .int .u8 0, .int .u8 0, .int .u8 0, .int .u8 0], cel b_1 23 [.bool (r.dead), .int .i64 (r.key.toInt), .int .i64 (r.value.toInt), .int .i64 (r.seq.toInt)]]) hs .h (by simp [cel, blk]); exact apM (A := [osl none 0 0 1 5 (([] : List UInt8).flatMap byteV), cel b_10 61 [.slice none 0 0], cel b_2 30 [.int .u8 0, .int .u8 0, .int .u8 0, .int .u8 0, .int .u8 0, .int .u8 0, .int .u8 0, .int .u8 0, .int .u8 0, .int .u8 0, .int .u8 0, .int .u8 0, .int .u8 0, .int .u8 0, .int .u8 0, .int .u8 0, .int .u8 0, .int .u8 0, .int .u8 0, .int .u8 0, .int .u8 0, .int .u8 0, .int .u8 0, .int .u8 0, .int .u8 0, .int .u8 0, .int .u8 0, .int .u8 0, .int .u8 0, .int .u8 0, .int .u8 0, .int .u8 0], cel b_1 23 [.bool (r.dead), .int .i64 (r.key.toInt), .int .i64 (r.value.toInt), .int .i64 (r.seq.toInt)]]) hs (.t .h) (by simp [cel, blk, aB])) ?_ ?_ ?_
    · -- a round
      rintro k A' hk_13 ⟨a1, c1, rfl⟩ w_13 l_13 hs_13
      refine wpS_region ?_
      refine s_y (v := .int .u64 ((((([b64 r.dead, r.key.toUInt64, r.value.toUInt64, r.seq.toUInt64]).getD k default))).toNat)) (y_assign rfl) rfl ?_
      refine wpL_nil ?_
      refine asg_n fun w2_13 hs2_13 => ?_
      refine wpS_block ?_
      refine wpS_region ?_
      refine s_y (v := .slice a1 ((leAll ([b64 r.dead, r.key.toUInt64, r.value.toUInt64, r.seq.toUInt64].take k)).length) c1) (y_load1 rfl Try.isAgg61 (own1 (.t .h) rfl)) rfl ?_
      refine s_y (v := .int .u64 ((((([b64 r.dead, r.key.toUInt64, r.value.toUInt64, r.seq.toUInt64]).getD k default))).toNat)) (y_move rfl) rfl ?_
      refine s_e rfl ?_
      refine e_call (f := 149) (args := #[.slice a1 ((leAll ([b64 r.dead, r.key.toUInt64, r.value.toUInt64, r.seq.toUInt64].take k)).length) c1, .int .u64 ((((([b64 r.dead, r.key.toUInt64, r.value.toUInt64, r.seq.toUInt64]).getD k default))).toNat), .int .i64 8]) (X := Option Addr × Nat) (A := [osl a1 c1 ((leAll ([b64 r.dead, r.key.toUInt64, r.value.toUInt64, r.seq.toUInt64].take k)).length) 1 5 ((leAll ([b64 r.dead, r.key.toUInt64, r.value.toUInt64, r.seq.toUInt64].take k)).flatMap byteV)]) (M := [cel b_10 61 [.slice a1 ((leAll ([b64 r.dead, r.key.toUInt64, r.value.toUInt64, r.seq.toUInt64].take k)).length) c1], cel b_2 30 [.int .u8 0, .int .u8 0, .int .u8 0, .int .u8 0, .int .u8 0, .int .u8 0, .int .u8 0, .int .u8 0, .int .u8 0, .int .u8 0, .int .u8 0, .int .u8 0, .int .u8 0, .int .u8 0, .int .u8 0, .int .u8 0, .int .u8 0, .int .u8 0, .int .u8 0, .int .u8 0, .int .u8 0, .int .u8 0, .int .u8 0, .int .u8 0, .int .u8 0, .int .u8 0, .int .u8 0, .int .u8 0, .int .u8 0, .int .u8 0, .int .u8 0, .int .u8 0], cel b_1 23 [.bool (r.dead), .int .i64 (r.key.toInt), .int .i64 (r.value.toInt), .int .i64 (r.seq.toInt)]]) (V := slV ((leAll ([b64 r.dead, r.key.toUInt64, r.value.toUInt64, r.seq.toUInt64].take k)) ++ le8 ((([b64 r.dead, r.key.toUInt64, r.value.toUInt64, r.seq.toUInt64]).getD k default)))) (A' := fun x => [slR byteV 1 5 ((leAll ([b64 r.dead, r.key.toUInt64, r.value.toUInt64, r.seq.toUInt64].take k)) ++ le8 ((([b64 r.dead, r.key.toUInt64, r.value.toUInt64, r.seq.toUInt64]).getD k default))) x]) (C := fun _ => True) Try.call149 (ev3 rfl rfl rfl) (.p .h (.p .h (.p .h (.p .h .nil)))) (fun w hs => putlow_c a1 c1 (leAll ([b64 r.dead, r.key.toUInt64, r.value.toUInt64, r.seq.toUInt64].take k)) ((([b64 r.dead, r.key.toUInt64, r.value.toUInt64, r.seq.toUInt64]).getD k default)) w ((SH.dropAll [cel b_10 61 [.slice a1 ((leAll ([b64 r.dead, r.key.toUInt64, r.value.toUInt64, r.seq.toUInt64].take k)).length) c1], cel b_2 30 [.int .u8 0, .int .u8 0, .int .u8 0, .int .u8 0, .int .u8 0, .int .u8 0, .int .u8 0, .int .u8 0, .int .u8 0, .int .u8 0, .int .u8 0, .int .u8 0, .int .u8 0, .int .u8 0, .int .u8 0, .int .u8 0, .int .u8 0, .int .u8 0, .int .u8 0, .int .u8 0, .int .u8 0, .int .u8 0, .int .u8 0, .int .u8 0, .int .u8 0, .int .u8 0, .int .u8 0, .int .u8 0, .int .u8 0, .int .u8 0, .int .u8 0, .int .u8 0], cel b_1 23 [.bool (r.dead), .int .i64 (r.key.toInt), .int .i64 (r.value.toInt), .int .i64 (r.seq.toInt)]] (hs.perm List.perm_append_comm)).self) (by rw [leAll_len, List.length_take]; omega)) ?_
      rintro ⟨a_14, c_15⟩ -
      refine s_e0 ?_
      refine e_store (vs := [.slice a_14 (((leAll ([b64 r.dead, r.key.toUInt64, r.value.toUInt64, r.seq.toUInt64].take k)) ++ le8 ((([b64 r.dead, r.key.toUInt64, r.value.toUInt64, r.seq.toUInt64]).getD k default))).length) c_15]) (l' := [.slice a_14 (((leAll ([b64 r.dead, r.key.toUInt64, r.value.toUInt64, r.seq.toUInt64].take k)) ++ le8 ((([b64 r.dead, r.key.toUInt64, r.value.toUInt64, r.seq.toUInt64]).getD k default))).length) c_15]) rfl rfl rfl rfl Try.sizeOf61 (.t .h) (Nat.le_of_ble_eq_true rfl) rfl ?_
      refine wpL_nil ?_
      refine blockS_n ?_
      rw [leAll_next [b64 r.dead, r.key.toUInt64, r.value.toUInt64, r.seq.toUInt64] k (by simp only [List.length_cons, List.length_nil]; omega)]
      exact rnd_n ⟨[osl a_14 c_15 ((leAll ([b64 r.dead, r.key.toUInt64, r.value.toUInt64, r.seq.toUInt64].take (k + 1))).length) 1 5 ((leAll ([b64 r.dead, r.key.toUInt64, r.value.toUInt64, r.seq.toUInt64].take (k + 1))).flatMap byteV), cel b_10 61 [.slice a_14 ((leAll ([b64 r.dead, r.key.toUInt64, r.value.toUInt64, r.seq.toUInt64].take (k + 1))).length) c_15], cel b_2 30 [.int .u8 0, .int .u8 0, .int .u8 0, .int .u8 0, .int .u8 0, .int .u8 0, .int .u8 0, .int .u8 0, .int .u8 0, .int .u8 0, .int .u8 0, .int .u8 0, .int .u8 0, .int .u8 0, .int .u8 0, .int .u8 0, .int .u8 0, .int .u8 0, .int .u8 0, .int .u8 0, .int .u8 0, .int .u8 0, .int .u8 0, .int .u8 0, .int .u8 0, .int .u8 0, .int .u8 0, .int .u8 0, .int .u8 0, .int .u8 0, .int .u8 0, .int .u8 0], cel b_1 23 [.bool (r.dead), .int .i64 (r.key.toInt), .int .i64 (r.value.toInt), .int .i64 (r.seq.toInt)]], .p (.t .h) (.p .h (.p .h (.p .h .nil))), ⟨a_14, c_15, rfl⟩⟩
    · -- behind
      rintro d_13 A' ⟨a1, c1, rfl⟩
      refine blockS_n ?_
      refine thenS_n ?_
      refine wpS_seq ?_
      refine wpS_region ?_
      refine s_y (v := .slice a1 ((leAll ([b64 r.dead, r.key.toUInt64, r.value.toUInt64, r.seq.toUInt64].take 4)).length) c1) (y_load1 rfl Try.isAgg61 (own1 (.t (.t .h)) rfl)) rfl ?_
      refine s_y (v := .pointer (some ⟨aB a1, aO a1, none⟩)) (y_s2aR rfl Try.underlying30 (by rw [leAll_len]; exact Nat.le_of_ble_eq_true rfl) (oslR (.t .h)) (by rw [fl_len byteV_len, leAll_len]; exact Nat.le_of_ble_eq_true rfl)) rfl ?_
      refine s_y (v := .agg (((leAll ([b64 r.dead, r.key.toUInt64, r.value.toUInt64, r.seq.toUInt64].take 4)).flatMap byteV)).toArray) (y_loadW (vs := ((leAll ([b64 r.dead, r.key.toUInt64, r.value.toUInt64, r.seq.toUInt64].take 4)).flatMap byteV)) rfl Try.isAgg30 Try.sizeOf30 (by rw [fl_len byteV_len, leAll_len]; rfl) (fun w hs => rds_cells ((oslR (.t .h)) w hs))) rfl ?_
      refine s_e0 ?_
      refine e_storeW (vs := ((leAll ([b64 r.dead, r.key.toUInt64, r.value.toUInt64, r.seq.toUInt64].take 4)).flatMap byteV)) rfl rfl rfl (fl_one byteV_one _) Try.sizeOf30 (by rw [fl_len byteV_len, leAll_len]; rfl) (.t (.t (.t .h))) rfl ?_
      refine wpL_nil ?_
      refine thenS_n ?_
      refine wpS_ret ?_
      refine fin1' (M := [cel b_2 30 ((leAll ([b64 r.dead, r.key.toUInt64, r.value.toUInt64, r.seq.toUInt64].take 4)).flatMap byteV)]) (.inr rfl) (.p (.t .h) (.p .h .nil)) Try.results48 (rvCW (vs := ((leAll ([b64 r.dead, r.key.toUInt64, r.value.toUInt64, r.seq.toUInt64].take 4)).flatMap byteV)) rfl Try.isAgg30 Try.sizeOf30 (fl32 r) (fun w hs => ownN .h (by simp only [List.drop_zero]; exact List.take_length) w hs)) ?_
      exact fun w' hs => ⟨by rw [show [b64 r.dead, r.key.toUInt64, r.value.toUInt64, r.seq.toUInt64] = words r from (words_live (by assumption)), words_take]; rfl, SH.dropAll (L := []) [_] hs⟩
    · -- left
      intro _ _ _ _ _ h; exact h.elim

end Go.Proofs.Ytldkjjnjdjfipaa
