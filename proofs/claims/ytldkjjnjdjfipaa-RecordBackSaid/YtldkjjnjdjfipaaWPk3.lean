/- The reference's Pack, walked. -/
import Derived.Test.YtldkjjnjdjfipaaWPkB
namespace Go.Proofs.Ytldkjjnjdjfipaa
open Go Go.RowKit
set_option linter.unusedVariables false
set_option linter.unusedSimpArgs false
set_option maxRecDepth 10000
set_option maxHeartbeats 1000000

theorem rpack_c (r : Rec) (w : World) : Pure Try.prog 70 #[.agg (recV r).toArray] w (.agg ((packB r).flatMap byteV).toArray) := by
  refine calls_S (n := 32) (σ0 := (upd fr0 0 (.agg #[.bool (r.dead), .int .i64 (r.key.toInt), .int .i64 (r.value.toInt), .int .i64 (r.seq.toInt)]))) (D := []) (A := []) Try.func70 rfl Try.ntmps70 rfl (a1_fr _) (SH.start w) ?_
  refine wpS_seq ?_
  refine wpS_region ?_
  refine s_e rfl ?_
  refine e_box (v := .agg #[.bool (r.dead), .int .i64 (r.key.toInt), .int .i64 (r.value.toInt), .int .i64 (r.seq.toInt)]) (l := [.bool (r.dead), .int .i64 (r.key.toInt), .int .i64 (r.value.toInt), .int .i64 (r.seq.toInt)]) rfl rfl ?_
  intro b_1
  refine s_e rfl ?_
  refine e_alloc (l := [.int .u8 0, .int .u8 0, .int .u8 0, .int .u8 0, .int .u8 0, .int .u8 0, .int .u8 0, .int .u8 0, .int .u8 0, .int .u8 0, .int .u8 0, .int .u8 0, .int .u8 0, .int .u8 0, .int .u8 0, .int .u8 0, .int .u8 0, .int .u8 0, .int .u8 0, .int .u8 0, .int .u8 0, .int .u8 0, .int .u8 0, .int .u8 0, .int .u8 0, .int .u8 0, .int .u8 0, .int .u8 0, .int .u8 0, .int .u8 0, .int .u8 0, .int .u8 0]) Try.zeroValue30 rfl ?_
  intro b_2
  refine wpL_nil ?_
  refine thenS_n ?_
  refine wpS_seq ?_
  refine wpS_region ?_
  refine s_y (v := .pointer (some ⟨b_1, 1, none⟩)) (y_fieldAddr (o' := 1) rfl Try.underlying23 rfl Try.sizeOf2 (by decide) rfl) rfl ?_
  refine s_y (v := .int .i64 (r.key.toInt)) (y_load1 rfl Try.isAgg2 (own1 (.t .h) rfl)) rfl ?_
  refine s_y (v := .int .u64 ((r.key.toUInt64).toNat)) (y_convI (a := r.key.toInt) (c := (r.key.toUInt64).toNat) rfl Try.underlying2 Try.underlying24 (iu_conv _)) rfl ?_
  refine s_y (v := .pointer (some ⟨b_1, 2, none⟩)) (y_fieldAddr (o' := 2) rfl Try.underlying23 rfl Try.sizeOf2 (by decide) rfl) rfl ?_
  refine s_y (v := .int .i64 (r.value.toInt)) (y_load1 rfl Try.isAgg2 (own1 (.t .h) rfl)) rfl ?_
  refine s_y (v := .int .u64 ((r.value.toUInt64).toNat)) (y_convI (a := r.value.toInt) (c := (r.value.toUInt64).toNat) rfl Try.underlying2 Try.underlying24 (iu_conv _)) rfl ?_
  refine s_y (v := .pointer (some ⟨b_1, 3, none⟩)) (y_fieldAddr (o' := 3) rfl Try.underlying23 rfl Try.sizeOf2 (by decide) rfl) rfl ?_
  refine s_y (v := .int .i64 (r.seq.toInt)) (y_load1 rfl Try.isAgg2 (own1 (.t .h) rfl)) rfl ?_
  refine s_y (v := .int .u64 ((r.seq.toUInt64).toNat)) (y_convI (a := r.seq.toInt) (c := (r.seq.toUInt64).toNat) rfl Try.underlying2 Try.underlying24 (iu_conv _)) rfl ?_
  refine s_e rfl ?_
  refine e_bsliceL (e := 24) (m := [(0, .int .u64 0), (1, .int .u64 ((r.key.toUInt64).toNat)), (2, .int .u64 ((r.value.toUInt64).toNat)), (3, .int .u64 ((r.seq.toUInt64).toNat))]) (l := [.int .u64 0, .int .u64 ((r.key.toUInt64).toNat), .int .u64 ((r.value.toUInt64).toNat), .int .u64 ((r.seq.toUInt64).toNat)]) (evc rfl (evc rfl (evc rfl (evc rfl evn)))) (fun w => by kernel_rfl) ?_
  intro b_3
  refine s_e rfl ?_
  refine e_call (f := 165) (args := #[.slice (some ⟨b_3, 0, none⟩) 4 4]) (X := Option Addr × Nat) (A := []) (M := [cel b_3 24 [.int .u64 0, .int .u64 ((r.key.toUInt64).toNat), .int .u64 ((r.value.toUInt64).toNat), .int .u64 ((r.seq.toUInt64).toNat)], cel b_2 30 [.int .u8 0, .int .u8 0, .int .u8 0, .int .u8 0, .int .u8 0, .int .u8 0, .int .u8 0, .int .u8 0, .int .u8 0, .int .u8 0, .int .u8 0, .int .u8 0, .int .u8 0, .int .u8 0, .int .u8 0, .int .u8 0, .int .u8 0, .int .u8 0, .int .u8 0, .int .u8 0, .int .u8 0, .int .u8 0, .int .u8 0, .int .u8 0, .int .u8 0, .int .u8 0, .int .u8 0, .int .u8 0, .int .u8 0, .int .u8 0, .int .u8 0, .int .u8 0], cel b_1 23 [.bool (r.dead), .int .i64 (r.key.toInt), .int .i64 (r.value.toInt), .int .i64 (r.seq.toInt)]]) (V := slV (leAll ([0, r.key.toUInt64, r.value.toUInt64, r.seq.toUInt64]))) (A' := fun x => [slR byteV 1 5 (leAll ([0, r.key.toUInt64, r.value.toUInt64, r.seq.toUInt64])) x]) (C := fun x => (leAll ([0, r.key.toUInt64, r.value.toUInt64, r.seq.toUInt64])).length ≤ x.2) Try.call165 (ev1 rfl) (.p .h (.p .h (.p .h .nil))) (fun w hs => (eights_c (some ⟨b_3, 0, none⟩) 4 4 ([0, r.key.toUInt64, r.value.toUInt64, r.seq.toUInt64]) w rfl (celR .h w hs) (by first | omega | decide)).cap) ?_
  rintro ⟨a_4, c_5⟩ hc6; replace hc6 : (leAll ([0, r.key.toUInt64, r.value.toUInt64, r.seq.toUInt64])).length ≤ c_5 := hc6
  refine s_y (v := .slice a_4 ((leAll ([0, r.key.toUInt64, r.value.toUInt64, r.seq.toUInt64])).length) c_5) (y_assign rfl) rfl ?_
  refine wpL_nil ?_
  refine thenS_n ?_
  refine wpS_seq ?_
  refine wpS_seq ?_
  refine wpS_region ?_
  refine s_y (v := .pointer (some ⟨b_1, 0, none⟩)) (y_fieldAddr (o' := 0) rfl Try.underlying23 rfl Try.sizeOf4 (by decide) rfl) rfl ?_
  refine s_y (v := .bool (r.dead)) (y_load1 rfl Try.isAgg4 (own1 (.t (.t (.t .h))) rfl)) rfl ?_
  refine wpL_nil ?_
  refine thenS_n ?_
  refine wpS_cond (t := r.dead) rfl (fun b8 => ?_) (fun b8 => ?_)
  · -- r.dead true
    refine wpS_region ?_
    refine s_e rfl ?_
    refine e_bsliceL (e := 24) (m := [(0, .int .u64 1), (1, .int .u64 0), (2, .int .u64 0), (3, .int .u64 0)]) (l := [.int .u64 1, .int .u64 0, .int .u64 0, .int .u64 0]) (evc rfl (evc rfl (evc rfl (evc rfl evn)))) (fun w => by kernel_rfl) ?_
    intro b_9
    refine s_e rfl ?_
    refine e_call (f := 165) (args := #[.slice (some ⟨b_9, 0, none⟩) 4 4]) (X := Option Addr × Nat) (A := []) (M := [cel b_9 24 [.int .u64 1, .int .u64 0, .int .u64 0, .int .u64 0], osl a_4 c_5 ((leAll ([0, r.key.toUInt64, r.value.toUInt64, r.seq.toUInt64])).length) 1 5 ((leAll ([0, r.key.toUInt64, r.value.toUInt64, r.seq.toUInt64])).flatMap byteV), cel b_3 24 [.int .u64 0, .int .u64 ((r.key.toUInt64).toNat), .int .u64 ((r.value.toUInt64).toNat), .int .u64 ((r.seq.toUInt64).toNat)], cel b_2 30 [.int .u8 0, .int .u8 0, .int .u8 0, .int .u8 0, .int .u8 0, .int .u8 0, .int .u8 0, .int .u8 0, .int .u8 0, .int .u8 0, .int .u8 0, .int .u8 0, .int .u8 0, .int .u8 0, .int .u8 0, .int .u8 0, .int .u8 0, .int .u8 0, .int .u8 0, .int .u8 0, .int .u8 0, .int .u8 0, .int .u8 0, .int .u8 0, .int .u8 0, .int .u8 0, .int .u8 0, .int .u8 0, .int .u8 0, .int .u8 0, .int .u8 0, .int .u8 0], cel b_1 23 [.bool (r.dead), .int .i64 (r.key.toInt), .int .i64 (r.value.toInt), .int .i64 (r.seq.toInt)]]) (V := slV (leAll ([1, 0, 0, 0]))) (A' := fun x => [slR byteV 1 5 (leAll ([1, 0, 0, 0])) x]) (C := fun x => (leAll ([1, 0, 0, 0])).length ≤ x.2) Try.call165 (ev1 rfl) (.p .h (.p .h (.p .h (.p .h (.p .h .nil))))) (fun w hs => (eights_c (some ⟨b_9, 0, none⟩) 4 4 ([1, 0, 0, 0]) w rfl (celR .h w hs) (by first | omega | decide)).cap) ?_
    rintro ⟨a_10, c_11⟩ hc12; replace hc12 : (leAll ([1, 0, 0, 0])).length ≤ c_11 := hc12
    refine s_y (v := .slice a_10 ((leAll ([1, 0, 0, 0])).length) c_11) (y_assign rfl) rfl ?_
    refine wpL_nil ?_
    refine thenS_n ?_
    refine wpS_seq ?_
    refine wpS_region ?_
    refine s_e rfl ?_
    refine e_alloc (l := [.int .u8 0, .int .u8 0, .int .u8 0, .int .u8 0, .int .u8 0, .int .u8 0, .int .u8 0, .int .u8 0, .int .u8 0, .int .u8 0, .int .u8 0, .int .u8 0, .int .u8 0, .int .u8 0, .int .u8 0, .int .u8 0, .int .u8 0, .int .u8 0, .int .u8 0, .int .u8 0, .int .u8 0, .int .u8 0, .int .u8 0, .int .u8 0, .int .u8 0, .int .u8 0, .int .u8 0, .int .u8 0, .int .u8 0, .int .u8 0, .int .u8 0, .int .u8 0]) Try.zeroValue30 rfl ?_
    intro b_14
    refine wpL_nil ?_
    refine thenS_n ?_
    refine wpS_seq ?_
    refine wpS_seq ?_
    refine wpS_region ?_
    refine s_y (v := .int .i64 0) (y_assign rfl) rfl ?_
    refine wpL_nil ?_
    refine thenS_n ?_
    refine wpS_block ?_
    have hd70 : (leAll ([1, 0, 0, 0])).length = 32 := by rw [leAll_len]; rfl
    refine wpS_loop (fun mez ds σ L => ∃ i : Nat, mez = 32 - i ∧ (i ≤ 32) ∧ ds = [] ∧ σ 2 = .pointer (some ⟨b_2, 0, none⟩) ∧ σ 3 = .slice a_10 ((leAll ([1, 0, 0, 0])).length) c_11 ∧ σ 4 = .pointer (some ⟨b_14, 0, none⟩) ∧ σ 5 = .int .i64 (((i : Nat) : Int)) ∧ Ent L [cel b_14 30 ((cpyB (leAll ([1, 0, 0, 0])) i).flatMap byteV), osl a_10 c_11 ((leAll ([1, 0, 0, 0])).length) 1 5 ((leAll ([1, 0, 0, 0])).flatMap byteV), cel b_9 24 [.int .u64 1, .int .u64 0, .int .u64 0, .int .u64 0], osl a_4 c_5 ((leAll ([0, r.key.toUInt64, r.value.toUInt64, r.seq.toUInt64])).length) 1 5 ((leAll ([0, r.key.toUInt64, r.value.toUInt64, r.seq.toUInt64])).flatMap byteV), cel b_3 24 [.int .u64 0, .int .u64 ((r.key.toUInt64).toNat), .int .u64 ((r.value.toUInt64).toNat), .int .u64 ((r.seq.toUInt64).toNat)], cel b_2 30 [.int .u8 0, .int .u8 0, .int .u8 0, .int .u8 0, .int .u8 0, .int .u8 0, .int .u8 0, .int .u8 0, .int .u8 0, .int .u8 0, .int .u8 0, .int .u8 0, .int .u8 0, .int .u8 0, .int .u8 0, .int .u8 0, .int .u8 0, .int .u8 0, .int .u8 0, .int .u8 0, .int .u8 0, .int .u8 0, .int .u8 0, .int .u8 0, .int .u8 0, .int .u8 0, .int .u8 0, .int .u8 0, .int .u8 0, .int .u8 0, .int .u8 0, .int .u8 0], cel b_1 23 [.bool (r.dead), .int .i64 (r.key.toInt), .int .i64 (r.value.toInt), .int .i64 (r.seq.toInt)]]) (m0 := 32 - 0) ⟨0, rfl, by omega, rfl, rfl, rfl, rfl, rfl, .p .h (.p .h (.p .h (.p .h (.p .h (.p .h (.p .h .nil))))))⟩ ?_
    rintro mez ds σ L ⟨i, hm_15, hf0_15, rfl, h2_15, h3_15, h4_15, h5_15, hE_15⟩
    refine wpS_ent hE_15 ?_; clear hE_15
    refine wpS_seq ?_
    refine wpS_seq ?_
    refine wpS_region ?_
    refine s_y (v := .int .i64 (((i : Nat) : Int))) (y_move h5_15) rfl ?_
    refine s_y (v := .bool (decide ((i : Nat) < 32))) (y_lss (a := ((i : Nat) : Int)) (b := 32) (c := decide ((i : Nat) < 32)) rfl rfl (decide_eq_decide.2 (by omega))) rfl ?_
    refine wpL_nil ?_
    refine thenS_n ?_
    refine wpS_cond (t := decide ((i : Nat) < 32)) rfl (fun b16 => ?_) (fun b16 => ?_)
    · -- decide ((i : Nat) < 32) true
      have p16 := of_decide_eq_true b16
      refine wpS_skip ?_
      refine thenS_n ?_
      refine wpS_seq ?_
      refine wpS_block ?_
      refine wpS_region ?_
      refine s_y (v := .int .i64 (((i : Nat) : Int))) (y_move h5_15) rfl ?_
      refine s_y (v := .slice a_10 ((leAll ([1, 0, 0, 0])).length) c_11) (y_move h3_15) rfl ?_
      refine s_y (v := .int .i64 (((i : Nat) : Int))) (y_move h5_15) rfl ?_
      refine s_y (v := .pointer (some ⟨aB a_10, aO a_10 + i * 1, none⟩)) (y_idx (o := i * 1) rfl rfl Try.underlying61 Try.sizeOf5 (oslR (.t .h)) (fl_len byteV_len _) (by decide) (by omega) (by omega) (by omega)) rfl ?_
      refine s_y (v := .int .u8 (((leAll ([1, 0, 0, 0])).getD i default).toNat)) (y_load1 (v := .int .u8 (((leAll ([1, 0, 0, 0])).getD i default).toNat)) rfl Try.isAgg5 (rd1 (k := i * 1) (oslR (.t .h)) (fl_get0 byteV_len (leAll ([1, 0, 0, 0])) i (by first | omega | (simp only [List.length_set, List.length_take, List.length_drop]; done) | (simp only [List.length_set, List.length_take, List.length_drop]; omega)) rfl))) rfl ?_
      refine s_y (v := .pointer (some ⟨b_14, 0 + i * 1, none⟩)) (y_idxA (o' := 0 + i * 1) h4_15 rfl Try.underlying30 Try.sizeOf5 (by omega) (by omega) (by omega)) rfl ?_
      refine s_e0 ?_
      refine e_storeC (enc := byteV) (xs := (cpyB (leAll ([1, 0, 0, 0])) i)) (y := ((leAll ([1, 0, 0, 0])).getD i default)) (zs := (cpyB (leAll ([1, 0, 0, 0])) (i + 1))) byteV_len byteV_one rfl (by omega) rfl rfl Try.sizeOf5 .h (by rw [cpyB_len (by assumption) (by omega)]; omega) (cpyB_set (by assumption) (by omega)) ?_
      refine wpL_nil ?_
      refine blockS_n ?_
      refine thenS_n ?_
      refine wpS_region ?_
      refine s_y (v := .int .i64 (((i : Nat) : Int))) (y_move h5_15) rfl ?_
      refine s_y (v := .int .i64 ((((i + 1) : Nat) : Int))) (y_add (a := ((i : Nat) : Int)) (b := 1) (c := (((i + 1) : Nat) : Int)) rfl rfl (wI (by omega) (by omega) (by omega))) rfl ?_
      refine s_y (v := .int .i64 ((((i + 1) : Nat) : Int))) (y_assign rfl) rfl ?_
      refine wpL_nil ?_
      refine thenS_n ?_
      exact ⟨_, by omega, ⟨(i + 1), rfl, by omega, rfl, h2_15, h3_15, h4_15, rfl, .p .h (.p .h (.p .h (.p .h (.p .h (.p .h (.p .h .nil))))))⟩⟩
    · -- decide ((i : Nat) < 32) false
      have p16 := of_decide_eq_false b16
      refine wpS_exit ?_
      refine thenS_x ?_
      refine thenS_x ?_
      refine blockS_h ?_
      refine thenS_n ?_
      refine wpS_seq ?_
      refine wpS_region ?_
      refine s_y (v := .agg (((cpyB (leAll ([1, 0, 0, 0])) i).flatMap byteV)).toArray) (y_loadW (vs := ((cpyB (leAll ([1, 0, 0, 0])) i).flatMap byteV)) h4_15 Try.isAgg30 Try.sizeOf30 (by rw [fl_len byteV_len, cpyB_len (by assumption) (by omega)]) (fun w hs => ownN .h (by simp only [List.drop_zero]; exact List.take_length) w hs)) rfl ?_
      refine s_e0 ?_
      refine e_storeW (vs := ((cpyB (leAll ([1, 0, 0, 0])) i).flatMap byteV)) h2_15 rfl rfl (fl_one byteV_one _) Try.sizeOf30 (by rw [fl_len byteV_len, cpyB_len (by assumption) (by omega)]) (.t (.t (.t (.t (.t .h))))) rfl ?_
      refine wpL_nil ?_
      refine thenS_n ?_
      refine wpS_ret ?_
      refine fin1' (M := [cel b_2 30 ((cpyB (leAll ([1, 0, 0, 0])) i).flatMap byteV)]) (.inr rfl) (.p .h .nil) Try.results70 (rvCW (vs := ((cpyB (leAll ([1, 0, 0, 0])) i).flatMap byteV)) h2_15 Try.isAgg30 Try.sizeOf30 (by rw [fl_len byteV_len, cpyB_len (by assumption) (by omega)]) (fun w hs => ownN .h (by simp only [List.drop_zero]; exact List.take_length) w hs)) ?_
      exact fun w' hs => ⟨by rw [cpyB_all (by assumption) (by omega), show (leAll ([1, 0, 0, 0])) = packB r from by unfold packB words; rw [if_pos (by simp [*])]], SH.dropAll (L := []) [_] hs⟩
  · -- r.dead false
    refine wpS_skip ?_
    refine thenS_n ?_
    refine wpS_seq ?_
    refine wpS_region ?_
    refine s_e rfl ?_
    refine e_alloc (l := [.int .u8 0, .int .u8 0, .int .u8 0, .int .u8 0, .int .u8 0, .int .u8 0, .int .u8 0, .int .u8 0, .int .u8 0, .int .u8 0, .int .u8 0, .int .u8 0, .int .u8 0, .int .u8 0, .int .u8 0, .int .u8 0, .int .u8 0, .int .u8 0, .int .u8 0, .int .u8 0, .int .u8 0, .int .u8 0, .int .u8 0, .int .u8 0, .int .u8 0, .int .u8 0, .int .u8 0, .int .u8 0, .int .u8 0, .int .u8 0, .int .u8 0, .int .u8 0]) Try.zeroValue30 rfl ?_
    intro b_17
    refine wpL_nil ?_
    refine thenS_n ?_
    refine wpS_seq ?_
    refine wpS_seq ?_
    refine wpS_region ?_
    refine s_y (v := .int .i64 0) (y_assign rfl) rfl ?_
    refine wpL_nil ?_
    refine thenS_n ?_
    refine wpS_block ?_
    have hd70 : (leAll ([0, r.key.toUInt64, r.value.toUInt64, r.seq.toUInt64])).length = 32 := by rw [leAll_len]; rfl
    refine wpS_loop (fun mez ds σ L => ∃ i : Nat, mez = 32 - i ∧ (i ≤ 32) ∧ ds = [] ∧ σ 2 = .pointer (some ⟨b_2, 0, none⟩) ∧ σ 3 = .slice a_4 ((leAll ([0, r.key.toUInt64, r.value.toUInt64, r.seq.toUInt64])).length) c_5 ∧ σ 4 = .pointer (some ⟨b_17, 0, none⟩) ∧ σ 5 = .int .i64 (((i : Nat) : Int)) ∧ Ent L [cel b_17 30 ((cpyB (leAll ([0, r.key.toUInt64, r.value.toUInt64, r.seq.toUInt64])) i).flatMap byteV), osl a_4 c_5 ((leAll ([0, r.key.toUInt64, r.value.toUInt64, r.seq.toUInt64])).length) 1 5 ((leAll ([0, r.key.toUInt64, r.value.toUInt64, r.seq.toUInt64])).flatMap byteV), cel b_3 24 [.int .u64 0, .int .u64 ((r.key.toUInt64).toNat), .int .u64 ((r.value.toUInt64).toNat), .int .u64 ((r.seq.toUInt64).toNat)], cel b_2 30 [.int .u8 0, .int .u8 0, .int .u8 0, .int .u8 0, .int .u8 0, .int .u8 0, .int .u8 0, .int .u8 0, .int .u8 0, .int .u8 0, .int .u8 0, .int .u8 0, .int .u8 0, .int .u8 0, .int .u8 0, .int .u8 0, .int .u8 0, .int .u8 0, .int .u8 0, .int .u8 0, .int .u8 0, .int .u8 0, .int .u8 0, .int .u8 0, .int .u8 0, .int .u8 0, .int .u8 0, .int .u8 0, .int .u8 0, .int .u8 0, .int .u8 0, .int .u8 0], cel b_1 23 [.bool (r.dead), .int .i64 (r.key.toInt), .int .i64 (r.value.toInt), .int .i64 (r.seq.toInt)]]) (m0 := 32 - 0) ⟨0, rfl, by omega, rfl, rfl, rfl, rfl, rfl, .p .h (.p .h (.p .h (.p .h (.p .h .nil))))⟩ ?_
    rintro mez ds σ L ⟨i, hm_18, hf0_18, rfl, h2_18, h3_18, h4_18, h5_18, hE_18⟩
    refine wpS_ent hE_18 ?_; clear hE_18
    refine wpS_seq ?_
    refine wpS_seq ?_
    refine wpS_region ?_
    refine s_y (v := .int .i64 (((i : Nat) : Int))) (y_move h5_18) rfl ?_
    refine s_y (v := .bool (decide ((i : Nat) < 32))) (y_lss (a := ((i : Nat) : Int)) (b := 32) (c := decide ((i : Nat) < 32)) rfl rfl (decide_eq_decide.2 (by omega))) rfl ?_
    refine wpL_nil ?_
    refine thenS_n ?_
    refine wpS_cond (t := decide ((i : Nat) < 32)) rfl (fun b19 => ?_) (fun b19 => ?_)
    · -- decide ((i : Nat) < 32) true
      have p19 := of_decide_eq_true b19
      refine wpS_skip ?_
      refine thenS_n ?_
      refine wpS_seq ?_
      refine wpS_block ?_
      refine wpS_region ?_
      refine s_y (v := .int .i64 (((i : Nat) : Int))) (y_move h5_18) rfl ?_
      refine s_y (v := .slice a_4 ((leAll ([0, r.key.toUInt64, r.value.toUInt64, r.seq.toUInt64])).length) c_5) (y_move h3_18) rfl ?_
      refine s_y (v := .int .i64 (((i : Nat) : Int))) (y_move h5_18) rfl ?_
      refine s_y (v := .pointer (some ⟨aB a_4, aO a_4 + i * 1, none⟩)) (y_idx (o := i * 1) rfl rfl Try.underlying61 Try.sizeOf5 (oslR (.t .h)) (fl_len byteV_len _) (by decide) (by omega) (by omega) (by omega)) rfl ?_
      refine s_y (v := .int .u8 (((leAll ([0, r.key.toUInt64, r.value.toUInt64, r.seq.toUInt64])).getD i default).toNat)) (y_load1 (v := .int .u8 (((leAll ([0, r.key.toUInt64, r.value.toUInt64, r.seq.toUInt64])).getD i default).toNat)) rfl Try.isAgg5 (rd1 (k := i * 1) (oslR (.t .h)) (fl_get0 byteV_len (leAll ([0, r.key.toUInt64, r.value.toUInt64, r.seq.toUInt64])) i (by first | omega | (simp only [List.length_set, List.length_take, List.length_drop]; done) | (simp only [List.length_set, List.length_take, List.length_drop]; omega)) rfl))) rfl ?_
      refine s_y (v := .pointer (some ⟨b_17, 0 + i * 1, none⟩)) (y_idxA (o' := 0 + i * 1) h4_18 rfl Try.underlying30 Try.sizeOf5 (by omega) (by omega) (by omega)) rfl ?_
      refine s_e0 ?_
      refine e_storeC (enc := byteV) (xs := (cpyB (leAll ([0, r.key.toUInt64, r.value.toUInt64, r.seq.toUInt64])) i)) (y := ((leAll ([0, r.key.toUInt64, r.value.toUInt64, r.seq.toUInt64])).getD i default)) (zs := (cpyB (leAll ([0, r.key.toUInt64, r.value.toUInt64, r.seq.toUInt64])) (i + 1))) byteV_len byteV_one rfl (by omega) rfl rfl Try.sizeOf5 .h (by rw [cpyB_len (by assumption) (by omega)]; omega) (cpyB_set (by assumption) (by omega)) ?_
      refine wpL_nil ?_
      refine blockS_n ?_
      refine thenS_n ?_
      refine wpS_region ?_
      refine s_y (v := .int .i64 (((i : Nat) : Int))) (y_move h5_18) rfl ?_
      refine s_y (v := .int .i64 ((((i + 1) : Nat) : Int))) (y_add (a := ((i : Nat) : Int)) (b := 1) (c := (((i + 1) : Nat) : Int)) rfl rfl (wI (by omega) (by omega) (by omega))) rfl ?_
      refine s_y (v := .int .i64 ((((i + 1) : Nat) : Int))) (y_assign rfl) rfl ?_
      refine wpL_nil ?_
      refine thenS_n ?_
      exact ⟨_, by omega, ⟨(i + 1), rfl, by omega, rfl, h2_18, h3_18, h4_18, rfl, .p .h (.p .h (.p .h (.p .h (.p .h .nil))))⟩⟩
    · -- decide ((i : Nat) < 32) false
      have p19 := of_decide_eq_false b19
      refine wpS_exit ?_
      refine thenS_x ?_
      refine thenS_x ?_
      refine blockS_h ?_
      refine thenS_n ?_
      refine wpS_seq ?_
      refine wpS_region ?_
      refine s_y (v := .agg (((cpyB (leAll ([0, r.key.toUInt64, r.value.toUInt64, r.seq.toUInt64])) i).flatMap byteV)).toArray) (y_loadW (vs := ((cpyB (leAll ([0, r.key.toUInt64, r.value.toUInt64, r.seq.toUInt64])) i).flatMap byteV)) h4_18 Try.isAgg30 Try.sizeOf30 (by rw [fl_len byteV_len, cpyB_len (by assumption) (by omega)]) (fun w hs => ownN .h (by simp only [List.drop_zero]; exact List.take_length) w hs)) rfl ?_
      refine s_e0 ?_
      refine e_storeW (vs := ((cpyB (leAll ([0, r.key.toUInt64, r.value.toUInt64, r.seq.toUInt64])) i).flatMap byteV)) h2_18 rfl rfl (fl_one byteV_one _) Try.sizeOf30 (by rw [fl_len byteV_len, cpyB_len (by assumption) (by omega)]) (.t (.t (.t .h))) rfl ?_
      refine wpL_nil ?_
      refine thenS_n ?_
      refine wpS_ret ?_
      refine fin1' (M := [cel b_2 30 ((cpyB (leAll ([0, r.key.toUInt64, r.value.toUInt64, r.seq.toUInt64])) i).flatMap byteV)]) (.inr rfl) (.p .h .nil) Try.results70 (rvCW (vs := ((cpyB (leAll ([0, r.key.toUInt64, r.value.toUInt64, r.seq.toUInt64])) i).flatMap byteV)) h2_18 Try.isAgg30 Try.sizeOf30 (by rw [fl_len byteV_len, cpyB_len (by assumption) (by omega)]) (fun w hs => ownN .h (by simp only [List.drop_zero]; exact List.take_length) w hs)) ?_
      exact fun w' hs => ⟨by rw [cpyB_all (by assumption) (by omega), show (leAll ([0, r.key.toUInt64, r.value.toUInt64, r.seq.toUInt64])) = packB r from by unfold packB words; rw [if_neg (by simp [*])]], SH.dropAll (L := []) [_] hs⟩

end Go.Proofs.Ytldkjjnjdjfipaa
