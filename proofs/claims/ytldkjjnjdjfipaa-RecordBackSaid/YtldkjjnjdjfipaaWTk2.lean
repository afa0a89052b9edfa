/- record.Take and the reference, walked. -/
import Derived.Test.YtldkjjnjdjfipaaWTk1
namespace Go.Proofs.Ytldkjjnjdjfipaa
open Go Go.RowKit
set_option linter.unusedVariables false
set_option linter.unusedSimpArgs false
set_option maxRecDepth 10000
set_option maxHeartbeats 1000000

def zeroR : Rec := ⟨false, 0, 0, 0⟩
def wordAt (l : List UInt8) (k : Nat) : UInt64 := UInt64.ofNat (valN ((l.drop (8 * k)).take 8))
/-- the record that bytes are, and what is answered -/
def takeR (l : List UInt8) : Rec × Int :=
  if l.length < 32 then (zeroR, 3) else if 32 < l.length then (zeroR, 4)
  else if (1 : Int) < ((wordAt l 0).toNat : Int) ∨ (wordAt l 0 = 1 ∧ Rec.mk (decide (wordAt l 0 = 1)) (wordAt l 1).toInt64 (wordAt l 2).toInt64 (wordAt l 3).toInt64 ≠ deadR) then (zeroR, 4)
  else (Rec.mk (decide (wordAt l 0 = 1)) (wordAt l 1).toInt64 (wordAt l 2).toInt64 (wordAt l 3).toInt64, 0)
section
variable {l : List UInt8}
theorem take_short (h : l.length < 32) : takeR l = (zeroR, 3) := by unfold takeR; rw [if_pos h]
theorem take_long (h : 32 < l.length) : takeR l = (zeroR, 4) := by unfold takeR; rw [if_neg (by omega), if_pos h]
theorem take_bad1 (h : l.length = 32) (h1 : (1 : Int) < ((wordAt l 0).toNat : Int)) : takeR l = (zeroR, 4) := by unfold takeR; rw [if_neg (by omega), if_neg (by omega), if_pos (.inl h1)]
theorem take_bad2 (h : l.length = 32) (h1 : wordAt l 0 = 1) (h2 : ¬ Rec.mk (decide (wordAt l 0 = 1)) (wordAt l 1).toInt64 (wordAt l 2).toInt64 (wordAt l 3).toInt64 = deadR) : takeR l = (zeroR, 4) := by unfold takeR; rw [if_neg (by omega), if_neg (by omega), if_pos (.inr ⟨h1, h2⟩)]
theorem take_ok1 (h : l.length = 32) (h1 : ¬ (1 : Int) < ((wordAt l 0).toNat : Int)) (h2 : ¬ wordAt l 0 = 1) : takeR l = (Rec.mk (decide (wordAt l 0 = 1)) (wordAt l 1).toInt64 (wordAt l 2).toInt64 (wordAt l 3).toInt64, 0) := by
  unfold takeR; rw [if_neg (by omega), if_neg (by omega), if_neg (by rintro (h3 | h3); exact h1 h3; exact h2 h3.1)]
theorem take_ok2 (h : l.length = 32) (h1 : ¬ (1 : Int) < ((wordAt l 0).toNat : Int)) (h2 : wordAt l 0 = 1) (h3 : Rec.mk (decide (wordAt l 0 = 1)) (wordAt l 1).toInt64 (wordAt l 2).toInt64 (wordAt l 3).toInt64 = deadR) : takeR l = (Rec.mk (decide (wordAt l 0 = 1)) (wordAt l 1).toInt64 (wordAt l 2).toInt64 (wordAt l 3).toInt64, 0) := by
  unfold takeR; rw [if_neg (by omega), if_neg (by omega), if_neg (by rintro (h4 | h4); exact h1 h4; exact h4.2 h3)]
theorem i64_zero {x : UInt64} : x.toInt64 = 0 ↔ x = 0 := by
  constructor
  · intro h; have := congrArg Int64.toUInt64 h; simp at this; exact this
  · rintro rfl; rfl
theorem mk_dead (h1 : wordAt l 0 = 1) : Rec.mk (decide (wordAt l 0 = 1)) (wordAt l 1).toInt64 (wordAt l 2).toInt64 (wordAt l 3).toInt64 = deadR ↔ wordAt l 1 = 0 ∧ wordAt l 2 = 0 ∧ wordAt l 3 = 0 := by
  rw [decide_eq_true h1, ← i64_zero, ← i64_zero, ← i64_zero]
  unfold deadR
  simp
theorem take_bad3 (h : l.length = 32) (h1 : wordAt l 0 = 1) (h2 : wordAt l 1 ≠ 0 ∨ wordAt l 2 ≠ 0 ∨ wordAt l 3 ≠ 0) : takeR l = (zeroR, 4) := take_bad2 h h1 (by rw [mk_dead h1]; rintro ⟨x, y, z⟩; rcases h2 with h2 | h2 | h2 <;> contradiction)
theorem take_ok3 (h : l.length = 32) (h1 : ¬ (1 : Int) < ((wordAt l 0).toNat : Int)) (h2 : wordAt l 0 = 1) (h3 : ¬ wordAt l 1 ≠ 0) (h4 : ¬ wordAt l 2 ≠ 0) (h5 : ¬ wordAt l 3 ≠ 0) : takeR l = (Rec.mk (decide (wordAt l 0 = 1)) (wordAt l 1).toInt64 (wordAt l 2).toInt64 (wordAt l 3).toInt64, 0) :=
  take_ok2 h h1 h2 ((mk_dead h2).2 ⟨Decidable.not_not.1 h3, Decidable.not_not.1 h4, Decidable.not_not.1 h5⟩)
theorem words4 : (List.range 4).map (wordAt l) = [wordAt l 0, wordAt l 1, wordAt l 2, wordAt l 3] := rfl
end

theorem take_c (a : Option Addr) (n c : Nat) (l : List UInt8) (w : World) (hn : l.length = n) (hr : Rds w a (l.flatMap byteV)) (hb : n ≤ 1000000) (hc : n ≤ c) : Pure Try.prog 68 #[.slice a n c] w (.tuple #[.agg (recV (takeR l).1).toArray, .int .i64 (takeR l).2]) := by
  refine calls_S (n := 57) (σ0 := (upd fr0 0 (.slice a n c))) (D := []) (A := []) Try.func68 rfl Try.ntmps68 rfl (a1_fr _) (SH.start w) ?_
  refine wpS_seq ?_
  refine wpS_region ?_
  refine s_e rfl ?_
  refine e_alloc (l := [.bool false, .int .i64 0, .int .i64 0, .int .i64 0]) Try.zeroValue23 rfl ?_
  intro b_1
  refine s_y (v := .int .i64 0) (y_assign rfl) rfl ?_
  refine wpL_nil ?_
  refine thenS_n ?_
  refine wpS_seq ?_
  refine wpS_block ?_
  refine wpS_seq ?_
  refine wpS_region ?_
  refine s_y (v := .slice a n c) (y_move rfl) rfl ?_
  refine s_y (v := .int .i64 (((n : Nat) : Int))) (y_len (ty' := 0) (at_ := #[]) rfl Try.underlying61) rfl ?_
  refine s_y (v := .bool (decide ((n : Nat) < 32))) (y_lss (a := ((n : Nat) : Int)) (b := 32) (c := decide ((n : Nat) < 32)) rfl rfl (decide_eq_decide.2 (by omega))) rfl ?_
  refine s_y (v := .bool (decide ((n : Nat) < 32))) (y_assign rfl) rfl ?_
  refine wpL_nil ?_
  refine thenS_n ?_
  refine wpS_cond (t := decide ((n : Nat) < 32)) rfl (fun b2 => ?_) (fun b2 => ?_)
  · -- decide ((n : Nat) < 32) true
    have p2 := of_decide_eq_true b2
    refine wpS_seq ?_
    refine wpS_region ?_
    refine s_y (v := .agg #[.bool false, .int .i64 0, .int .i64 0, .int .i64 0]) (y_buildL (m := []) (vs := #[.bool false, .int .i64 0, .int .i64 0, .int .i64 0]) evn (fun w => by kernel_rfl)) rfl ?_
    refine s_e0 ?_
    refine e_store (vs := [.bool false, .int .i64 0, .int .i64 0, .int .i64 0]) (l' := [.bool false, .int .i64 0, .int .i64 0, .int .i64 0]) rfl rfl rfl rfl Try.sizeOf23 .h (Nat.le_of_ble_eq_true rfl) rfl ?_
    refine s_y (v := .int .i64 3) (y_assign rfl) rfl ?_
    refine wpL_nil ?_
    refine thenS_n ?_
    refine wpS_ret ?_
    refine blockS_r ?_
    refine thenS_r ?_
    refine fin2 (M := [cel b_1 23 [.bool false, .int .i64 0, .int .i64 0, .int .i64 0]]) (.inr rfl) (.p .h .nil) Try.results68 (rvC (vs := [.bool false, .int .i64 0, .int .i64 0, .int .i64 0]) rfl Try.isAgg23 Try.sizeOf23 (fun w hs => ownN .h rfl w hs)) (rvT (v := .int .i64 3) rfl) ?_
    refine fun w' hs => ⟨?_, SH.dropAll (L := []) [_] hs⟩
    first | (rw [take_short (by omega)] <;> rfl) | (rw [take_long (by omega)] <;> rfl) | (rw [take_bad1 (by omega) (by assumption)] <;> rfl) | (rw [take_bad2 (by omega) (by assumption) (by assumption)] <;> rfl) | (rw [take_ok1 (by omega) (by assumption) (by assumption)] <;> rfl) | (rw [take_ok2 (by omega) (by assumption) (by assumption) (by assumption)] <;> rfl) | (rw [take_bad3 (by omega) (by assumption) (by assumption)] <;> rfl) | (rw [take_ok3 (by omega) (by assumption) (by assumption) (by assumption) (by assumption) (by assumption)] <;> rfl)
  · -- decide ((n : Nat) < 32) false
    have p2 := of_decide_eq_false b2
    refine wpS_seq ?_
    refine wpS_region ?_
    refine s_y (v := .slice a n c) (y_move rfl) rfl ?_
    refine s_y (v := .int .i64 (((n : Nat) : Int))) (y_len (ty' := 0) (at_ := #[]) rfl Try.underlying61) rfl ?_
    refine s_y (v := .bool (decide ((32 : Nat) < n))) (y_gtr (a := ((n : Nat) : Int)) (b := 32) (c := decide ((32 : Nat) < n)) rfl rfl (decide_eq_decide.2 (by omega))) rfl ?_
    refine s_y (v := .bool (decide ((32 : Nat) < n))) (y_assign rfl) rfl ?_
    refine wpL_nil ?_
    refine thenS_n ?_
    refine wpS_cond (t := decide ((32 : Nat) < n)) rfl (fun b3 => ?_) (fun b3 => ?_)
    · -- decide ((32 : Nat) < n) true
      have p3 := of_decide_eq_true b3
      refine wpS_seq ?_
      refine wpS_region ?_
      refine s_y (v := .agg #[.bool false, .int .i64 0, .int .i64 0, .int .i64 0]) (y_buildL (m := []) (vs := #[.bool false, .int .i64 0, .int .i64 0, .int .i64 0]) evn (fun w => by kernel_rfl)) rfl ?_
      refine s_e0 ?_
      refine e_store (vs := [.bool false, .int .i64 0, .int .i64 0, .int .i64 0]) (l' := [.bool false, .int .i64 0, .int .i64 0, .int .i64 0]) rfl rfl rfl rfl Try.sizeOf23 .h (Nat.le_of_ble_eq_true rfl) rfl ?_
      refine s_y (v := .int .i64 4) (y_assign rfl) rfl ?_
      refine wpL_nil ?_
      refine thenS_n ?_
      refine wpS_ret ?_
      refine blockS_r ?_
      refine thenS_r ?_
      refine fin2 (M := [cel b_1 23 [.bool false, .int .i64 0, .int .i64 0, .int .i64 0]]) (.inr rfl) (.p .h .nil) Try.results68 (rvC (vs := [.bool false, .int .i64 0, .int .i64 0, .int .i64 0]) rfl Try.isAgg23 Try.sizeOf23 (fun w hs => ownN .h rfl w hs)) (rvT (v := .int .i64 4) rfl) ?_
      refine fun w' hs => ⟨?_, SH.dropAll (L := []) [_] hs⟩
      first | (rw [take_short (by omega)] <;> rfl) | (rw [take_long (by omega)] <;> rfl) | (rw [take_bad1 (by omega) (by assumption)] <;> rfl) | (rw [take_bad2 (by omega) (by assumption) (by assumption)] <;> rfl) | (rw [take_ok1 (by omega) (by assumption) (by assumption)] <;> rfl) | (rw [take_ok2 (by omega) (by assumption) (by assumption) (by assumption)] <;> rfl) | (rw [take_bad3 (by omega) (by assumption) (by assumption)] <;> rfl) | (rw [take_ok3 (by omega) (by assumption) (by assumption) (by assumption) (by assumption) (by assumption)] <;> rfl)
    · -- decide ((32 : Nat) < n) false
      have p3 := of_decide_eq_false b3
      refine wpS_skip ?_
      refine blockS_n ?_
      refine thenS_n ?_
      refine wpS_seq ?_
      refine wpS_region ?_
      refine s_e rfl ?_
      refine e_alloc (l := [.slice none 0 0]) Try.zeroValue175 rfl ?_
      intro b_4
      refine wpL_nil ?_
      refine thenS_n ?_
      refine wpS_seq ?_
      refine wpS_seq ?_
      refine wpS_region ?_
      refine s_y (v := .slice a n c) (y_move rfl) rfl ?_
      refine s_e rfl ?_
      refine e_call (f := 162) (args := #[.slice a n c, .int .i64 8]) (X := Nat × Nat) (A := []) (M := [cel b_4 175 [.slice none 0 0], cel b_1 23 [.bool false, .int .i64 0, .int .i64 0, .int .i64 0]]) (V := fun x : Nat × Nat => .func (.func 220) #[] #[.pointer (some ⟨x.1, 0, none⟩), .pointer (some ⟨x.2, 0, none⟩)]) (A' := fun x : Nat × Nat => [cel x.1 61 [.slice a n c], cel x.2 3 [.int .i64 8]]) (C := fun _ => True) Try.call162 (ev2 rfl rfl) (.p .h (.p .h .nil)) (fun w hs => chunkb_c a n c 8 w (by omega) (by omega)) ?_
      rintro ⟨b_5, b_6⟩ -
      refine wpL_nil ?_
      refine thenS_n ?_
      refine wpS_block ?_
      refine wpS_nil0 1 24 ?_
      refine wpS_rangeFunc (f := 220) (cap := #[.pointer (some ⟨b_5, 0, none⟩), .pointer (some ⟨b_6, 0, none⟩)]) (enc := fun k => #[.slice (subA a (8 * k + 8) (8 * k) 1) 8 8]) (N := 4) (rd := fun y => y = b_5 ∨ y = b_6 ∨ 0 < l.length ∧ y = aB a) (A := [osl none 0 0 1 24 (([] : List UInt64).flatMap u64V), cel b_4 175 [.slice none 0 0], cel b_1 23 [.bool false, .int .i64 0, .int .i64 0, .int .i64 0]]) (M := [cel b_5 61 [.slice a n c], cel b_6 3 [.int .i64 8]]) (fun k A => ∃ a1 : Option Addr, ∃ c1 : Nat, A = [osl a1 c1 (((List.range k).map (wordAt l)).length) 1 24 (((List.range k).map (wordAt l)).flatMap u64V), cel b_4 175 [.slice a1 (((List.range k).map (wordAt l)).length) c1], cel b_1 23 [.bool false, .int .i64 0, .int .i64 0, .int .i64 0]]) (fun k e A => False) rfl Try.call220 (by kernel_rfl) (fun _ => rfl) (.p .h (.p (.t (.t .h)) (.p (.t (.t .h)) (.p .h (.p .h .nil))))) ⟨none, 0, rfl⟩ (fun w hs => (chunkb_at b_5 b_6 a n c l 8 4 w (own1 (.t (.t (.t .h))) rfl w hs) (own1 (.t (.t (.t (.t .h)))) rfl w hs) hn ((oldR hr) w hs) (by omega) (by omega) (by omega)).it) (fun w hs b hb => by rcases hb with rfl | rfl | ⟨hl, rfl⟩; exact apM (A := [osl none 0 0 1 24 (([] : List UInt64).flatMap u64V), cel b_4 175 [.slice none 0 0], cel b_1 23 [.bool false, .int .i64 0, .int .i64 0, .int .i64 0]]) hs .h (by simp [cel, blk]); exact apM (A := [osl none 0 0 1 24 (([] : List UInt64).flatMap u64V), cel b_4 175 [.slice none 0 0], cel b_1 23 [.bool false, .int .i64 0, .int .i64 0, .int .i64 0]]) hs (.t .h) (by simp [cel, blk]); exact apOld hs (rdBlk hr (fl_pos byteV_len (by decide) hl)) (by simp)) ?_ ?_ ?_
      · -- a round
        rintro k A' hk_7 ⟨a1, c1, rfl⟩ w_7 l_7 hs_7
        refine wpS_region ?_
        refine s_y (v := .slice (subA a (8 * k + 8) (8 * k) 1) 8 8) (y_assign rfl) rfl ?_
        refine wpL_nil ?_
        refine asg_n fun w2_7 hs2_7 => ?_
        have hrd8 := rdIn (A' := [osl a1 c1 (((List.range k).map (wordAt l)).length) 1 24 (((List.range k).map (wordAt l)).flatMap u64V), cel b_4 175 [.slice a1 (((List.range k).map (wordAt l)).length) c1], cel b_1 23 [.bool false, .int .i64 0, .int .i64 0, .int .i64 0]]) hs2_7 (oldR hr w2_7 hs2_7) (fun hl => ⟨rdBlk hr hl, by simp⟩)
        have hch9 := fun L' => rdsChunk (lo := 8 * k) (q := 8) byteV_len (rdIn (A' := [osl a1 c1 (((List.range k).map (wordAt l)).length) 1 24 (((List.range k).map (wordAt l)).flatMap u64V), cel b_4 175 [.slice a1 (((List.range k).map (wordAt l)).length) c1], cel b_1 23 [.bool false, .int .i64 0, .int .i64 0, .int .i64 0]]) hs2_7 (oldR hr w2_7 hs2_7) (fun hl => ⟨rdBlk hr hl, by simp⟩) L')
        have hcl_7 : ((l.drop (8 * k)).take 8).length = 8 := by rw [List.length_take, List.length_drop]; exact chunk_len (m := 4) (by omega) (by omega) 
        refine wpS_block ?_
        refine wpS_anyL [cel b_4 175 [.slice a1 (((List.range k).map (wordAt l)).length) c1]] [5] (by kernel_rfl) ?_
        refine anyS_take (i := 0) rfl (by kernel_rfl) (by kernel_rfl) (by kernel_rfl) (by kernel_rfl) (Yq.of (v := .slice a1 (((List.range k).map (wordAt l)).length) c1) (y_load1 rfl Try.isAgg175 (own1 .h rfl)) rfl) (.p (.t .h) .nil) ?_
        refine anyS_take (i := 1) rfl (by kernel_rfl) (by kernel_rfl) (by kernel_rfl) (by kernel_rfl) (Yq.of (v := .slice (subA a (8 * k + 8) (8 * k) 1) 8 8) (y_move rfl) rfl) (.p (.t .h) .nil) ?_
        refine anyS_take (i := 2) rfl (by kernel_rfl) (by kernel_rfl) (by kernel_rfl) (by kernel_rfl) (Yq.of (v := .int .u64 (((UInt64.ofNat (valN ((l.drop (8 * k)).take 8)))).toNat)) (y_call (args := #[.slice (subA a (8 * k + 8) (8 * k) 1) 8 8, .int .i64 8]) (v := .int .u64 (((UInt64.ofNat (valN ((l.drop (8 * k)).take 8)))).toNat)) Try.call163 (ev2 rfl rfl) (fun w hs => low_c (subA a (8 * k + 8) (8 * k) 1) 8 8 ((l.drop (8 * k)).take 8) w hcl_7 ((hch9 _) w hs) (by omega))) rfl) (.p (.t .h) .nil) ?_
        refine anyS_all (rs := [3]) (by kernel_rfl) (by simp) ?_
        intro i hi; obtain rfl := List.mem_singleton.1 hi; clear hi
        refine opS_0 rfl rfl ?_
        refine e_bsliceL (e := 24) (m := [(0, .int .u64 (((UInt64.ofNat (valN ((l.drop (8 * k)).take 8)))).toNat))]) (l := [.int .u64 (((UInt64.ofNat (valN ((l.drop (8 * k)).take 8)))).toNat)]) (evc rfl evn) (fun w => by kernel_rfl) ?_
        intro b_10
        refine ⟨.inr (.p (.t (.t .h)) .nil), ?_⟩
        refine anyS_all (rs := [4]) (by kernel_rfl) (by simp) ?_
        intro i hi; obtain rfl := List.mem_singleton.1 hi; clear hi
        refine opS_0 rfl rfl ?_
        refine e_appendL (enc := u64V) (xs := (((List.range k).map (wordAt l)) : List UInt64)) (ns := ([(wordAt l k)] : List UInt64)) (zs := ((List.range (k + 1)).map (wordAt l))) (bytes := 8) u64V_len u64V_one Try.underlying175 (i := Try.t24) rfl rfl rfl rfl rfl (by decide) rfl rfl (by first | rfl | omega) (by first | rfl | omega) (.t .h) (fun w hs => celR .h w hs) (by rw [List.range_succ, List.map_append]; rfl) (by rw [List.length_map, List.length_range]; omega) (by rw [List.length_map, List.length_range]; omega) ?_
        intro a_11 c_12
        refine ⟨.inr (.p (.t (.t .h)) .nil), ?_⟩
        refine anyS_all (rs := [5]) (by kernel_rfl) (by simp) ?_
        intro i hi; obtain rfl := List.mem_singleton.1 hi; clear hi
        refine opS_0 rfl rfl ?_
        refine e_store (vs := [.slice a_11 (((List.range (k + 1)).map (wordAt l)).length) c_12]) (l' := [.slice a_11 (((List.range (k + 1)).map (wordAt l)).length) c_12]) rfl rfl rfl rfl Try.sizeOf175 (.t (.t .h)) (Nat.le_of_ble_eq_true rfl) rfl ?_
        refine ⟨.inl (by simp), ?_⟩
        refine anyS_done (by kernel_rfl) ?_
        refine blockS_n ?_
        exact rnd_n ⟨[osl a_11 c_12 (((List.range (k + 1)).map (wordAt l)).length) 1 24 (((List.range (k + 1)).map (wordAt l)).flatMap u64V), cel b_4 175 [.slice a_11 (((List.range (k + 1)).map (wordAt l)).length) c_12], cel b_1 23 [.bool false, .int .i64 0, .int .i64 0, .int .i64 0]], .p (.t .h) (.p .h (.p (.t .h) .nil)), ⟨a_11, c_12, rfl⟩⟩
      · -- behind
        rintro d_7 A' ⟨a1, c1, rfl⟩
        rw [words4]
        refine blockS_n ?_
        refine thenS_n ?_
        refine wpS_seq ?_
        refine wpS_anyL [osl a1 c1 4 1 24 (([wordAt l 0, wordAt l 1, wordAt l 2, wordAt l 3]).flatMap u64V), cel b_4 175 [.slice a1 4 c1]] [] (by kernel_rfl) ?_
        refine anyS_take (i := 0) rfl (by kernel_rfl) (by kernel_rfl) (by kernel_rfl) (by kernel_rfl) (Yq.of (v := .slice a1 4 c1) (y_load1 rfl Try.isAgg175 (own1 (.t .h) rfl)) rfl) (.p (.t .h) (.p (.t .h) .nil)) ?_
        refine anyS_take (i := 1) rfl (by kernel_rfl) (by kernel_rfl) (by kernel_rfl) (by kernel_rfl) (Yq.of (v := .pointer (some ⟨aB a1, aO a1 + 0 * 1, none⟩)) (y_idx (o := 0 * 1) rfl rfl Try.underlying175 Try.sizeOf24 (oslR .h) (fl_len u64V_len _) (by decide) (by omega) (by omega) (by omega)) rfl) (.p (.t .h) (.p (.t .h) .nil)) ?_
        refine anyS_take (i := 2) rfl (by kernel_rfl) (by kernel_rfl) (by kernel_rfl) (by kernel_rfl) (Yq.of (v := .int .u64 (((wordAt l 0)).toNat)) (y_load1 (v := .int .u64 (((wordAt l 0)).toNat)) rfl Try.isAgg24 (rd1 (k := 0 * 1) (oslR .h) (fl_get0 u64V_len ([wordAt l 0, wordAt l 1, wordAt l 2, wordAt l 3]) 0 (Nat.le_of_ble_eq_true rfl) rfl))) rfl) (.p (.t .h) (.p (.t .h) .nil)) ?_
        refine anyS_take (i := 3) rfl (by kernel_rfl) (by kernel_rfl) (by kernel_rfl) (by kernel_rfl) (Yq.of (v := .bool (decide ((wordAt l 0) = 1))) (y_eql (a := ((wordAt l 0)).toNat) (b := 1) (c := decide ((wordAt l 0) = 1)) rfl rfl (u_eqlL _ 1 (by decide))) rfl) (.p (.t .h) (.p (.t .h) .nil)) ?_
        refine anyS_take (i := 4) rfl (by kernel_rfl) (by kernel_rfl) (by kernel_rfl) (by kernel_rfl) (Yq.of (v := .slice a1 4 c1) (y_load1 rfl Try.isAgg175 (own1 (.t .h) rfl)) rfl) (.p (.t .h) (.p (.t .h) .nil)) ?_
        refine anyS_take (i := 5) rfl (by kernel_rfl) (by kernel_rfl) (by kernel_rfl) (by kernel_rfl) (Yq.of (v := .pointer (some ⟨aB a1, aO a1 + 1 * 1, none⟩)) (y_idx (o := 1 * 1) rfl rfl Try.underlying175 Try.sizeOf24 (oslR .h) (fl_len u64V_len _) (by decide) (by omega) (by omega) (by omega)) rfl) (.p (.t .h) (.p (.t .h) .nil)) ?_
        refine anyS_take (i := 6) rfl (by kernel_rfl) (by kernel_rfl) (by kernel_rfl) (by kernel_rfl) (Yq.of (v := .int .u64 (((wordAt l 1)).toNat)) (y_load1 (v := .int .u64 (((wordAt l 1)).toNat)) rfl Try.isAgg24 (rd1 (k := 1 * 1) (oslR .h) (fl_get0 u64V_len ([wordAt l 0, wordAt l 1, wordAt l 2, wordAt l 3]) 1 (Nat.le_of_ble_eq_true rfl) rfl))) rfl) (.p (.t .h) (.p (.t .h) .nil)) ?_
        refine anyS_take (i := 7) rfl (by kernel_rfl) (by kernel_rfl) (by kernel_rfl) (by kernel_rfl) (Yq.of (v := .int .i64 (((wordAt l 1).toInt64).toInt)) (y_convI (a := ((wordAt l 1)).toNat) (c := ((wordAt l 1).toInt64).toInt) rfl Try.underlying24 Try.underlying2 (ui_conv _)) rfl) (.p (.t .h) (.p (.t .h) .nil)) ?_
        refine anyS_take (i := 8) rfl (by kernel_rfl) (by kernel_rfl) (by kernel_rfl) (by kernel_rfl) (Yq.of (v := .slice a1 4 c1) (y_load1 rfl Try.isAgg175 (own1 (.t .h) rfl)) rfl) (.p (.t .h) (.p (.t .h) .nil)) ?_
        refine anyS_take (i := 9) rfl (by kernel_rfl) (by kernel_rfl) (by kernel_rfl) (by kernel_rfl) (Yq.of (v := .pointer (some ⟨aB a1, aO a1 + 2 * 1, none⟩)) (y_idx (o := 2 * 1) rfl rfl Try.underlying175 Try.sizeOf24 (oslR .h) (fl_len u64V_len _) (by decide) (by omega) (by omega) (by omega)) rfl) (.p (.t .h) (.p (.t .h) .nil)) ?_
        refine anyS_take (i := 10) rfl (by kernel_rfl) (by kernel_rfl) (by kernel_rfl) (by kernel_rfl) (Yq.of (v := .int .u64 (((wordAt l 2)).toNat)) (y_load1 (v := .int .u64 (((wordAt l 2)).toNat)) rfl Try.isAgg24 (rd1 (k := 2 * 1) (oslR .h) (fl_get0 u64V_len ([wordAt l 0, wordAt l 1, wordAt l 2, wordAt l 3]) 2 (Nat.le_of_ble_eq_true rfl) rfl))) rfl) (.p (.t .h) (.p (.t .h) .nil)) ?_
        refine anyS_take (i := 11) rfl (by kernel_rfl) (by kernel_rfl) (by kernel_rfl) (by kernel_rfl) (Yq.of (v := .int .i64 (((wordAt l 2).toInt64).toInt)) (y_convI (a := ((wordAt l 2)).toNat) (c := ((wordAt l 2).toInt64).toInt) rfl Try.underlying24 Try.underlying2 (ui_conv _)) rfl) (.p (.t .h) (.p (.t .h) .nil)) ?_
        refine anyS_take (i := 12) rfl (by kernel_rfl) (by kernel_rfl) (by kernel_rfl) (by kernel_rfl) (Yq.of (v := .slice a1 4 c1) (y_load1 rfl Try.isAgg175 (own1 (.t .h) rfl)) rfl) (.p (.t .h) (.p (.t .h) .nil)) ?_
        refine anyS_take (i := 13) rfl (by kernel_rfl) (by kernel_rfl) (by kernel_rfl) (by kernel_rfl) (Yq.of (v := .pointer (some ⟨aB a1, aO a1 + 3 * 1, none⟩)) (y_idx (o := 3 * 1) rfl rfl Try.underlying175 Try.sizeOf24 (oslR .h) (fl_len u64V_len _) (by decide) (by omega) (by omega) (by omega)) rfl) (.p (.t .h) (.p (.t .h) .nil)) ?_
        refine anyS_take (i := 14) rfl (by kernel_rfl) (by kernel_rfl) (by kernel_rfl) (by kernel_rfl) (Yq.of (v := .int .u64 (((wordAt l 3)).toNat)) (y_load1 (v := .int .u64 (((wordAt l 3)).toNat)) rfl Try.isAgg24 (rd1 (k := 3 * 1) (oslR .h) (fl_get0 u64V_len ([wordAt l 0, wordAt l 1, wordAt l 2, wordAt l 3]) 3 (Nat.le_of_ble_eq_true rfl) rfl))) rfl) (.p (.t .h) (.p (.t .h) .nil)) ?_
        refine anyS_take (i := 15) rfl (by kernel_rfl) (by kernel_rfl) (by kernel_rfl) (by kernel_rfl) (Yq.of (v := .int .i64 (((wordAt l 3).toInt64).toInt)) (y_convI (a := ((wordAt l 3)).toNat) (c := ((wordAt l 3).toInt64).toInt) rfl Try.underlying24 Try.underlying2 (ui_conv _)) rfl) (.p (.t .h) (.p (.t .h) .nil)) ?_
        refine anyS_take (i := 16) rfl (by kernel_rfl) (by kernel_rfl) (by kernel_rfl) (by kernel_rfl) (Yq.of (v := .agg #[.bool (decide ((wordAt l 0) = 1)), .int .i64 (((wordAt l 1).toInt64).toInt), .int .i64 (((wordAt l 2).toInt64).toInt), .int .i64 (((wordAt l 3).toInt64).toInt)]) (y_buildL (m := [(0, .bool (decide ((wordAt l 0) = 1))), (1, .int .i64 (((wordAt l 1).toInt64).toInt)), (2, .int .i64 (((wordAt l 2).toInt64).toInt)), (3, .int .i64 (((wordAt l 3).toInt64).toInt))]) (vs := #[.bool (decide ((wordAt l 0) = 1)), .int .i64 (((wordAt l 1).toInt64).toInt), .int .i64 (((wordAt l 2).toInt64).toInt), .int .i64 (((wordAt l 3).toInt64).toInt)]) (evc rfl (evc rfl (evc rfl (evc rfl evn)))) (fun w => by kernel_rfl)) rfl) (.p (.t .h) (.p (.t .h) .nil)) ?_
        refine anyS_all (rs := [17]) (by kernel_rfl) (by simp) ?_
        intro i hi; obtain rfl := List.mem_singleton.1 hi; clear hi
        refine opS_0 rfl rfl ?_
        refine e_alloc (l := [.bool false, .int .i64 0, .int .i64 0, .int .i64 0]) Try.zeroValue23 rfl ?_
        intro b_13
        refine ⟨.inr (.p (.t (.t .h)) (.p (.t (.t .h)) .nil)), ?_⟩
        refine anyS_all (rs := [18]) (by kernel_rfl) (by simp) ?_
        intro i hi; obtain rfl := List.mem_singleton.1 hi; clear hi
        refine opS_0 rfl rfl ?_
        refine e_store (vs := [.bool (decide ((wordAt l 0) = 1)), .int .i64 (((wordAt l 1).toInt64).toInt), .int .i64 (((wordAt l 2).toInt64).toInt), .int .i64 (((wordAt l 3).toInt64).toInt)]) (l' := [.bool (decide ((wordAt l 0) = 1)), .int .i64 (((wordAt l 1).toInt64).toInt), .int .i64 (((wordAt l 2).toInt64).toInt), .int .i64 (((wordAt l 3).toInt64).toInt)]) rfl rfl rfl rfl Try.sizeOf23 .h (Nat.le_of_ble_eq_true rfl) rfl ?_
        refine ⟨.inr (.p (.t (.t .h)) (.p (.t (.t .h)) .nil)), ?_⟩
        refine anyS_done (by kernel_rfl) ?_
        refine thenS_n ?_
        refine wpS_seq ?_
        refine wpS_seq ?_
        refine wpS_lex (by kernel_rfl) (by kernel_rfl) ?_
        refine x_y (v := .slice a1 4 c1) (y_load1 rfl Try.isAgg175 (own1 (.t (.t (.t .h))) rfl)) rfl ?_
        refine x_y (v := .pointer (some ⟨aB a1, aO a1 + 0 * 1, none⟩)) (y_idx (o := 0 * 1) rfl rfl Try.underlying175 Try.sizeOf24 (oslR (.t (.t .h))) (fl_len u64V_len _) (by decide) (by omega) (by omega) (by omega)) rfl ?_
        refine x_y (v := .int .u64 (((wordAt l 0)).toNat)) (y_load1 (v := .int .u64 (((wordAt l 0)).toNat)) rfl Try.isAgg24 (rd1 (k := 0 * 1) (oslR (.t (.t .h))) (fl_get0 u64V_len ([wordAt l 0, wordAt l 1, wordAt l 2, wordAt l 3]) 0 (Nat.le_of_ble_eq_true rfl) rfl))) rfl ?_
        refine x_y (v := .bool (decide ((1 : Int) < (((wordAt l 0)).toNat)))) (y_gtr (a := ((wordAt l 0)).toNat) (b := 1) rfl rfl rfl) rfl ?_
        refine x_y (v := .bool (decide ((1 : Int) < (((wordAt l 0)).toNat)))) (y_move rfl) rfl ?_
        rcases Bool.eq_false_or_eq_true (decide ((1 : Int) < (((wordAt l 0)).toNat))) with b14 | b14
        · -- decide ((1 : Int) < (((wordAt l 0)).toNat)) True
          have p14 := of_decide_eq_true b14
          refine x_no rfl rfl rfl rfl (b' := decide ((1 : Int) < (((wordAt l 0)).toNat))) rfl b14 ?_
          refine x_no rfl rfl rfl rfl (b' := decide ((1 : Int) < (((wordAt l 0)).toNat))) rfl b14 ?_
          refine x_no rfl rfl rfl rfl (b' := decide ((1 : Int) < (((wordAt l 0)).toNat))) rfl b14 ?_
          refine x_nu rfl rfl rfl rfl rfl ?_
          refine x_nu rfl rfl rfl rfl rfl ?_
          refine x_nu rfl rfl rfl rfl rfl ?_
          refine x_no rfl rfl rfl rfl (b' := decide ((1 : Int) < (((wordAt l 0)).toNat))) rfl b14 ?_
          refine x_y (v := .bool true) (y_pickT (b := decide ((1 : Int) < (((wordAt l 0)).toNat))) (v := .bool true) rfl b14 rfl) rfl ?_
          refine x_nil ?_
          refine thenS_n ?_
          refine wpS_cond_t rfl ?_
          refine wpS_seq ?_
          refine wpS_region ?_
          refine s_y (v := .agg #[.bool false, .int .i64 0, .int .i64 0, .int .i64 0]) (y_buildL (m := []) (vs := #[.bool false, .int .i64 0, .int .i64 0, .int .i64 0]) evn (fun w => by kernel_rfl)) rfl ?_
          refine s_e0 ?_
          refine e_store (vs := [.bool false, .int .i64 0, .int .i64 0, .int .i64 0]) (l' := [.bool false, .int .i64 0, .int .i64 0, .int .i64 0]) rfl rfl rfl rfl Try.sizeOf23 (.t (.t (.t (.t .h)))) (Nat.le_of_ble_eq_true rfl) rfl ?_
          refine s_y (v := .int .i64 4) (y_assign rfl) rfl ?_
          refine wpL_nil ?_
          refine thenS_n ?_
          refine wpS_ret ?_
          refine thenS_r ?_
          refine fin2 (M := [cel b_1 23 [.bool false, .int .i64 0, .int .i64 0, .int .i64 0]]) (.inr rfl) (.p (.t (.t .h)) (.p .h .nil)) Try.results68 (rvC (vs := [.bool false, .int .i64 0, .int .i64 0, .int .i64 0]) rfl Try.isAgg23 Try.sizeOf23 (fun w hs => ownN .h rfl w hs)) (rvT (v := .int .i64 4) rfl) ?_
          refine fun w' hs => ⟨?_, SH.dropAll (L := []) [_] hs⟩
          first | (rw [take_short (by omega)] <;> rfl) | (rw [take_long (by omega)] <;> rfl) | (rw [take_bad1 (by omega) (by assumption)] <;> rfl) | (rw [take_bad2 (by omega) (by assumption) (by assumption)] <;> rfl) | (rw [take_ok1 (by omega) (by assumption) (by assumption)] <;> rfl) | (rw [take_ok2 (by omega) (by assumption) (by assumption) (by assumption)] <;> rfl) | (rw [take_bad3 (by omega) (by assumption) (by assumption)] <;> rfl) | (rw [take_ok3 (by omega) (by assumption) (by assumption) (by assumption) (by assumption) (by assumption)] <;> rfl)
        · -- decide ((1 : Int) < (((wordAt l 0)).toNat)) False
          have p14 := of_decide_eq_false b14
          refine x_gy (y_fieldAddr (o' := 0) rfl Try.underlying23 rfl Try.sizeOf4 (by decide) rfl) rfl rfl rfl rfl (b' := decide ((1 : Int) < (((wordAt l 0)).toNat))) rfl b14 ?_
          refine x_gy (y_load1 rfl Try.isAgg4 (own1 .h rfl)) rfl rfl rfl rfl (b' := decide ((1 : Int) < (((wordAt l 0)).toNat))) rfl b14 ?_
          refine x_gy (y_move rfl) rfl rfl rfl rfl (b' := decide ((1 : Int) < (((wordAt l 0)).toNat))) rfl b14 ?_
          rcases Bool.eq_false_or_eq_true (decide ((wordAt l 0) = 1)) with b15 | b15
          · -- decide ((wordAt l 0) = 1) True
            have p15 := of_decide_eq_true b15
            refine x_gy (y_loadN (vs := [.bool (decide ((wordAt l 0) = 1)), .int .i64 (((wordAt l 1).toInt64).toInt), .int .i64 (((wordAt l 2).toInt64).toInt), .int .i64 (((wordAt l 3).toInt64).toInt)]) rfl Try.isAgg23 Try.sizeOf23 (ownN .h rfl)) rfl rfl rfl rfl (b' := decide ((wordAt l 0) = 1)) rfl b15 ?_
            refine x_gy (y_call (args := #[]) (v := .agg #[.bool (deadR.dead), .int .i64 (deadR.key.toInt), .int .i64 (deadR.value.toInt), .int .i64 (deadR.seq.toInt)]) Try.call49 ev0 (fun w hs => dead_c w)) rfl rfl rfl rfl (b' := decide ((wordAt l 0) = 1)) rfl b15 ?_
            refine x_gy (y_neqS (a := #[.bool (decide ((wordAt l 0) = 1)), .int .i64 (((wordAt l 1).toInt64).toInt), .int .i64 (((wordAt l 2).toInt64).toInt), .int .i64 (((wordAt l 3).toInt64).toInt)]) (b := #[.bool (deadR.dead), .int .i64 (deadR.key.toInt), .int .i64 (deadR.value.toInt), .int .i64 (deadR.seq.toInt)]) (c := decide ((Rec.mk (decide ((wordAt l 0) = 1)) ((wordAt l 1).toInt64) ((wordAt l 2).toInt64) ((wordAt l 3).toInt64)) = deadR)) Try.eqGuardType23 (fun w => equalR w (Rec.mk (decide ((wordAt l 0) = 1)) ((wordAt l 1).toInt64) ((wordAt l 2).toInt64) ((wordAt l 3).toInt64)) deadR) rfl rfl) rfl rfl rfl rfl (b' := decide ((wordAt l 0) = 1)) rfl b15 ?_
            refine x_gy (y_pickT (b := decide ((wordAt l 0) = 1)) (v := .bool (!(decide ((Rec.mk (decide ((wordAt l 0) = 1)) ((wordAt l 1).toInt64) ((wordAt l 2).toInt64) ((wordAt l 3).toInt64)) = deadR)))) rfl b15 rfl) rfl rfl rfl rfl (b' := decide ((1 : Int) < (((wordAt l 0)).toNat))) rfl b14 ?_
            refine x_y (v := .bool (!(decide ((Rec.mk (decide ((wordAt l 0) = 1)) ((wordAt l 1).toInt64) ((wordAt l 2).toInt64) ((wordAt l 3).toInt64)) = deadR)))) (y_pickF (b := decide ((1 : Int) < (((wordAt l 0)).toNat))) (v := .bool (!(decide ((Rec.mk (decide ((wordAt l 0) = 1)) ((wordAt l 1).toInt64) ((wordAt l 2).toInt64) ((wordAt l 3).toInt64)) = deadR)))) rfl b14 rfl) rfl ?_
            refine x_nil ?_
            refine thenS_n ?_
            refine wpS_cond (t := !(decide ((Rec.mk (decide ((wordAt l 0) = 1)) ((wordAt l 1).toInt64) ((wordAt l 2).toInt64) ((wordAt l 3).toInt64)) = deadR))) rfl (fun b16 => ?_) (fun b16 => ?_)
            · -- !(decide ((Rec.mk (decide ((wordAt l 0) = 1)) ((wordAt l 1).toInt64) ((wordAt l 2).toInt64) ((wordAt l 3).toInt64)) = deadR)) true
              have b17 : (decide ((Rec.mk (decide ((wordAt l 0) = 1)) ((wordAt l 1).toInt64) ((wordAt l 2).toInt64) ((wordAt l 3).toInt64)) = deadR)) = false := by simpa using b16
              have p17 := of_decide_eq_false b17
              refine wpS_seq ?_
              refine wpS_region ?_
              refine s_y (v := .agg #[.bool false, .int .i64 0, .int .i64 0, .int .i64 0]) (y_buildL (m := []) (vs := #[.bool false, .int .i64 0, .int .i64 0, .int .i64 0]) evn (fun w => by kernel_rfl)) rfl ?_
              refine s_e0 ?_
              refine e_store (vs := [.bool false, .int .i64 0, .int .i64 0, .int .i64 0]) (l' := [.bool false, .int .i64 0, .int .i64 0, .int .i64 0]) rfl rfl rfl rfl Try.sizeOf23 (.t (.t (.t (.t .h)))) (Nat.le_of_ble_eq_true rfl) rfl ?_
              refine s_y (v := .int .i64 4) (y_assign rfl) rfl ?_
              refine wpL_nil ?_
              refine thenS_n ?_
              refine wpS_ret ?_
              refine thenS_r ?_
              refine fin2 (M := [cel b_1 23 [.bool false, .int .i64 0, .int .i64 0, .int .i64 0]]) (.inr rfl) (.p (.t (.t .h)) (.p .h .nil)) Try.results68 (rvC (vs := [.bool false, .int .i64 0, .int .i64 0, .int .i64 0]) rfl Try.isAgg23 Try.sizeOf23 (fun w hs => ownN .h rfl w hs)) (rvT (v := .int .i64 4) rfl) ?_
              refine fun w' hs => ⟨?_, SH.dropAll (L := []) [_] hs⟩
              first | (rw [take_short (by omega)] <;> rfl) | (rw [take_long (by omega)] <;> rfl) | (rw [take_bad1 (by omega) (by assumption)] <;> rfl) | (rw [take_bad2 (by omega) (by assumption) (by assumption)] <;> rfl) | (rw [take_ok1 (by omega) (by assumption) (by assumption)] <;> rfl) | (rw [take_ok2 (by omega) (by assumption) (by assumption) (by assumption)] <;> rfl) | (rw [take_bad3 (by omega) (by assumption) (by assumption)] <;> rfl) | (rw [take_ok3 (by omega) (by assumption) (by assumption) (by assumption) (by assumption) (by assumption)] <;> rfl)
            · -- !(decide ((Rec.mk (decide ((wordAt l 0) = 1)) ((wordAt l 1).toInt64) ((wordAt l 2).toInt64) ((wordAt l 3).toInt64)) = deadR)) false
              have b18 : (decide ((Rec.mk (decide ((wordAt l 0) = 1)) ((wordAt l 1).toInt64) ((wordAt l 2).toInt64) ((wordAt l 3).toInt64)) = deadR)) = true := by simpa using b16
              have p18 := of_decide_eq_true b18
              refine wpS_skip ?_
              refine thenS_n ?_
              refine wpS_seq ?_
              refine wpS_region ?_
              refine s_y (v := .agg #[.bool (decide ((wordAt l 0) = 1)), .int .i64 (((wordAt l 1).toInt64).toInt), .int .i64 (((wordAt l 2).toInt64).toInt), .int .i64 (((wordAt l 3).toInt64).toInt)]) (y_loadN (vs := [.bool (decide ((wordAt l 0) = 1)), .int .i64 (((wordAt l 1).toInt64).toInt), .int .i64 (((wordAt l 2).toInt64).toInt), .int .i64 (((wordAt l 3).toInt64).toInt)]) rfl Try.isAgg23 Try.sizeOf23 (ownN .h rfl)) rfl ?_
              refine s_e0 ?_
              refine e_store (vs := [.bool (decide ((wordAt l 0) = 1)), .int .i64 (((wordAt l 1).toInt64).toInt), .int .i64 (((wordAt l 2).toInt64).toInt), .int .i64 (((wordAt l 3).toInt64).toInt)]) (l' := [.bool (decide ((wordAt l 0) = 1)), .int .i64 (((wordAt l 1).toInt64).toInt), .int .i64 (((wordAt l 2).toInt64).toInt), .int .i64 (((wordAt l 3).toInt64).toInt)]) rfl rfl rfl rfl Try.sizeOf23 (.t (.t (.t (.t .h)))) (Nat.le_of_ble_eq_true rfl) rfl ?_
              refine s_y (v := .int .i64 0) (y_assign rfl) rfl ?_
              refine wpL_nil ?_
              refine thenS_n ?_
              refine wpS_ret ?_
              refine fin2 (M := [cel b_1 23 [.bool (decide ((wordAt l 0) = 1)), .int .i64 (((wordAt l 1).toInt64).toInt), .int .i64 (((wordAt l 2).toInt64).toInt), .int .i64 (((wordAt l 3).toInt64).toInt)]]) (.inr rfl) (.p (.t (.t .h)) (.p .h .nil)) Try.results68 (rvC (vs := [.bool (decide ((wordAt l 0) = 1)), .int .i64 (((wordAt l 1).toInt64).toInt), .int .i64 (((wordAt l 2).toInt64).toInt), .int .i64 (((wordAt l 3).toInt64).toInt)]) rfl Try.isAgg23 Try.sizeOf23 (fun w hs => ownN .h rfl w hs)) (rvT (v := .int .i64 0) rfl) ?_
              refine fun w' hs => ⟨?_, SH.dropAll (L := []) [_] hs⟩
              first | (rw [take_short (by omega)] <;> rfl) | (rw [take_long (by omega)] <;> rfl) | (rw [take_bad1 (by omega) (by assumption)] <;> rfl) | (rw [take_bad2 (by omega) (by assumption) (by assumption)] <;> rfl) | (rw [take_ok1 (by omega) (by assumption) (by assumption)] <;> rfl) | (rw [take_ok2 (by omega) (by assumption) (by assumption) (by assumption)] <;> rfl) | (rw [take_bad3 (by omega) (by assumption) (by assumption)] <;> rfl) | (rw [take_ok3 (by omega) (by assumption) (by assumption) (by assumption) (by assumption) (by assumption)] <;> rfl)
          · -- decide ((wordAt l 0) = 1) False
            have p15 := of_decide_eq_false b15
            refine x_no rfl rfl rfl rfl (b' := decide ((wordAt l 0) = 1)) rfl b15 ?_
            refine x_no rfl rfl rfl rfl (b' := decide ((wordAt l 0) = 1)) rfl b15 ?_
            refine x_no rfl rfl rfl rfl (b' := decide ((wordAt l 0) = 1)) rfl b15 ?_
            refine x_gy (y_pickF (b := decide ((wordAt l 0) = 1)) (v := .bool false) rfl b15 rfl) rfl rfl rfl rfl (b' := decide ((1 : Int) < (((wordAt l 0)).toNat))) rfl b14 ?_
            refine x_y (v := .bool false) (y_pickF (b := decide ((1 : Int) < (((wordAt l 0)).toNat))) (v := .bool false) rfl b14 rfl) rfl ?_
            refine x_nil ?_
            refine thenS_n ?_
            refine wpS_cond_f rfl ?_
            refine wpS_skip ?_
            refine thenS_n ?_
            refine wpS_seq ?_
            refine wpS_region ?_
            refine s_y (v := .agg #[.bool (decide ((wordAt l 0) = 1)), .int .i64 (((wordAt l 1).toInt64).toInt), .int .i64 (((wordAt l 2).toInt64).toInt), .int .i64 (((wordAt l 3).toInt64).toInt)]) (y_loadN (vs := [.bool (decide ((wordAt l 0) = 1)), .int .i64 (((wordAt l 1).toInt64).toInt), .int .i64 (((wordAt l 2).toInt64).toInt), .int .i64 (((wordAt l 3).toInt64).toInt)]) rfl Try.isAgg23 Try.sizeOf23 (ownN .h rfl)) rfl ?_
            refine s_e0 ?_
            refine e_store (vs := [.bool (decide ((wordAt l 0) = 1)), .int .i64 (((wordAt l 1).toInt64).toInt), .int .i64 (((wordAt l 2).toInt64).toInt), .int .i64 (((wordAt l 3).toInt64).toInt)]) (l' := [.bool (decide ((wordAt l 0) = 1)), .int .i64 (((wordAt l 1).toInt64).toInt), .int .i64 (((wordAt l 2).toInt64).toInt), .int .i64 (((wordAt l 3).toInt64).toInt)]) rfl rfl rfl rfl Try.sizeOf23 (.t (.t (.t (.t .h)))) (Nat.le_of_ble_eq_true rfl) rfl ?_
            refine s_y (v := .int .i64 0) (y_assign rfl) rfl ?_
            refine wpL_nil ?_
            refine thenS_n ?_
            refine wpS_ret ?_
            refine fin2 (M := [cel b_1 23 [.bool (decide ((wordAt l 0) = 1)), .int .i64 (((wordAt l 1).toInt64).toInt), .int .i64 (((wordAt l 2).toInt64).toInt), .int .i64 (((wordAt l 3).toInt64).toInt)]]) (.inr rfl) (.p (.t (.t .h)) (.p .h .nil)) Try.results68 (rvC (vs := [.bool (decide ((wordAt l 0) = 1)), .int .i64 (((wordAt l 1).toInt64).toInt), .int .i64 (((wordAt l 2).toInt64).toInt), .int .i64 (((wordAt l 3).toInt64).toInt)]) rfl Try.isAgg23 Try.sizeOf23 (fun w hs => ownN .h rfl w hs)) (rvT (v := .int .i64 0) rfl) ?_
            refine fun w' hs => ⟨?_, SH.dropAll (L := []) [_] hs⟩
            first | (rw [take_short (by omega)] <;> rfl) | (rw [take_long (by omega)] <;> rfl) | (rw [take_bad1 (by omega) (by assumption)] <;> rfl) | (rw [take_bad2 (by omega) (by assumption) (by assumption)] <;> rfl) | (rw [take_ok1 (by omega) (by assumption) (by assumption)] <;> rfl) | (rw [take_ok2 (by omega) (by assumption) (by assumption) (by assumption)] <;> rfl) | (rw [take_bad3 (by omega) (by assumption) (by assumption)] <;> rfl) | (rw [take_ok3 (by omega) (by assumption) (by assumption) (by assumption) (by assumption) (by assumption)] <;> rfl)
      · -- left
        intro _ _ _ _ _ h; exact h.elim

theorem rtake_c (a : Option Addr) (n c : Nat) (l : List UInt8) (w : World) (hn : l.length = n) (hr : Rds w a (l.flatMap byteV)) (hb : n ≤ 1000000) (hc : n ≤ c) : Pure Try.prog 69 #[.slice a n c] w (.tuple #[.agg (recV (takeR l).1).toArray, .int .i64 (takeR l).2]) := by
  refine calls_S (n := 56) (σ0 := (upd fr0 0 (.slice a n c))) (D := []) (A := []) Try.func69 rfl Try.ntmps69 rfl (a1_fr _) (SH.start w) ?_
  refine wpS_seq ?_
  refine wpS_region ?_
  refine s_e rfl ?_
  refine e_alloc (l := [.bool false, .int .i64 0, .int .i64 0, .int .i64 0]) Try.zeroValue23 rfl ?_
  intro b_1
  refine s_y (v := .int .i64 0) (y_assign rfl) rfl ?_
  refine wpL_nil ?_
  refine thenS_n ?_
  refine wpS_seq ?_
  refine wpS_seq ?_
  refine wpS_region ?_
  refine s_y (v := .slice a n c) (y_move rfl) rfl ?_
  refine s_y (v := .int .i64 (((n : Nat) : Int))) (y_len (ty' := 0) (at_ := #[]) rfl Try.underlying61) rfl ?_
  refine s_y (v := .bool (decide ((n : Nat) < 32))) (y_lss (a := ((n : Nat) : Int)) (b := 32) (c := decide ((n : Nat) < 32)) rfl rfl (decide_eq_decide.2 (by omega))) rfl ?_
  refine wpL_nil ?_
  refine thenS_n ?_
  refine wpS_cond (t := decide ((n : Nat) < 32)) rfl (fun b2 => ?_) (fun b2 => ?_)
  · -- decide ((n : Nat) < 32) true
    have p2 := of_decide_eq_true b2
    refine wpS_seq ?_
    refine wpS_region ?_
    refine s_y (v := .agg #[.bool false, .int .i64 0, .int .i64 0, .int .i64 0]) (y_buildL (m := []) (vs := #[.bool false, .int .i64 0, .int .i64 0, .int .i64 0]) evn (fun w => by kernel_rfl)) rfl ?_
    refine s_e0 ?_
    refine e_store (vs := [.bool false, .int .i64 0, .int .i64 0, .int .i64 0]) (l' := [.bool false, .int .i64 0, .int .i64 0, .int .i64 0]) rfl rfl rfl rfl Try.sizeOf23 .h (Nat.le_of_ble_eq_true rfl) rfl ?_
    refine s_y (v := .int .i64 3) (y_assign rfl) rfl ?_
    refine wpL_nil ?_
    refine thenS_n ?_
    refine wpS_ret ?_
    refine thenS_r ?_
    refine fin2 (M := [cel b_1 23 [.bool false, .int .i64 0, .int .i64 0, .int .i64 0]]) (.inr rfl) (.p .h .nil) Try.results69 (rvC (vs := [.bool false, .int .i64 0, .int .i64 0, .int .i64 0]) rfl Try.isAgg23 Try.sizeOf23 (fun w hs => ownN .h rfl w hs)) (rvT (v := .int .i64 3) rfl) ?_
    refine fun w' hs => ⟨?_, SH.dropAll (L := []) [_] hs⟩
    first | (rw [take_short (by omega)] <;> rfl) | (rw [take_long (by omega)] <;> rfl) | (rw [take_bad1 (by omega) (by assumption)] <;> rfl) | (rw [take_bad2 (by omega) (by assumption) (by assumption)] <;> rfl) | (rw [take_ok1 (by omega) (by assumption) (by assumption)] <;> rfl) | (rw [take_ok2 (by omega) (by assumption) (by assumption) (by assumption)] <;> rfl) | (rw [take_bad3 (by omega) (by assumption) (by assumption)] <;> rfl) | (rw [take_ok3 (by omega) (by assumption) (by assumption) (by assumption) (by assumption) (by assumption)] <;> rfl)
  · -- decide ((n : Nat) < 32) false
    have p2 := of_decide_eq_false b2
    refine wpS_skip ?_
    refine thenS_n ?_
    refine wpS_seq ?_
    refine wpS_seq ?_
    refine wpS_region ?_
    refine s_y (v := .slice a n c) (y_move rfl) rfl ?_
    refine s_y (v := .int .i64 (((n : Nat) : Int))) (y_len (ty' := 0) (at_ := #[]) rfl Try.underlying61) rfl ?_
    refine s_y (v := .bool (decide ((32 : Nat) < n))) (y_gtr (a := ((n : Nat) : Int)) (b := 32) (c := decide ((32 : Nat) < n)) rfl rfl (decide_eq_decide.2 (by omega))) rfl ?_
    refine wpL_nil ?_
    refine thenS_n ?_
    refine wpS_cond (t := decide ((32 : Nat) < n)) rfl (fun b3 => ?_) (fun b3 => ?_)
    · -- decide ((32 : Nat) < n) true
      have p3 := of_decide_eq_true b3
      refine wpS_seq ?_
      refine wpS_region ?_
      refine s_y (v := .agg #[.bool false, .int .i64 0, .int .i64 0, .int .i64 0]) (y_buildL (m := []) (vs := #[.bool false, .int .i64 0, .int .i64 0, .int .i64 0]) evn (fun w => by kernel_rfl)) rfl ?_
      refine s_e0 ?_
      refine e_store (vs := [.bool false, .int .i64 0, .int .i64 0, .int .i64 0]) (l' := [.bool false, .int .i64 0, .int .i64 0, .int .i64 0]) rfl rfl rfl rfl Try.sizeOf23 .h (Nat.le_of_ble_eq_true rfl) rfl ?_
      refine s_y (v := .int .i64 4) (y_assign rfl) rfl ?_
      refine wpL_nil ?_
      refine thenS_n ?_
      refine wpS_ret ?_
      refine thenS_r ?_
      refine fin2 (M := [cel b_1 23 [.bool false, .int .i64 0, .int .i64 0, .int .i64 0]]) (.inr rfl) (.p .h .nil) Try.results69 (rvC (vs := [.bool false, .int .i64 0, .int .i64 0, .int .i64 0]) rfl Try.isAgg23 Try.sizeOf23 (fun w hs => ownN .h rfl w hs)) (rvT (v := .int .i64 4) rfl) ?_
      refine fun w' hs => ⟨?_, SH.dropAll (L := []) [_] hs⟩
      first | (rw [take_short (by omega)] <;> rfl) | (rw [take_long (by omega)] <;> rfl) | (rw [take_bad1 (by omega) (by assumption)] <;> rfl) | (rw [take_bad2 (by omega) (by assumption) (by assumption)] <;> rfl) | (rw [take_ok1 (by omega) (by assumption) (by assumption)] <;> rfl) | (rw [take_ok2 (by omega) (by assumption) (by assumption) (by assumption)] <;> rfl) | (rw [take_bad3 (by omega) (by assumption) (by assumption)] <;> rfl) | (rw [take_ok3 (by omega) (by assumption) (by assumption) (by assumption) (by assumption) (by assumption)] <;> rfl)
    · -- decide ((32 : Nat) < n) false
      have p3 := of_decide_eq_false b3
      refine wpS_skip ?_
      refine thenS_n ?_
      refine wpS_seq ?_
      refine wpS_lex (by kernel_rfl) (by kernel_rfl) ?_
      refine x_y (v := .slice a n c) (y_move rfl) rfl ?_
      refine x_y (v := .slice a 8 c) (y_sliceH (h' := 8) rfl rfl Try.underlying61 Try.sizeOf5 (by omega) (by omega) (by omega)) rfl ?_
      refine x_y (v := .int .u64 (((wordAt l 0)).toNat)) (y_call (args := #[.slice a 8 c]) (v := .int .u64 (((wordAt l 0)).toNat)) Try.call164 (ev1 rfl) (fun w hs => num_c a 8 c ((l.drop (8 * 0)).take 8) w (by rw [List.length_take, List.length_drop]; omega) ((rdsT byteV_len 8 (oldR hr)) w hs) (by omega))) rfl ?_
      refine x_y (v := .slice a n c) (y_move rfl) rfl ?_
      refine x_y (v := .slice (subA a c 8 1) (16 - 8) (c - 8)) (y_sliceLH (l' := 8) (h' := 16) rfl rfl rfl Try.underlying61 Try.sizeOf5 (by omega) (by omega) (by omega) (by omega) (by omega)) rfl ?_
      refine x_y (v := .int .u64 (((wordAt l 1)).toNat)) (y_call (args := #[.slice (subA a c 8 1) (16 - 8) (c - 8)]) (v := .int .u64 (((wordAt l 1)).toNat)) Try.call164 (ev1 rfl) (fun w hs => num_c (subA a c 8 1) (16 - 8) (c - 8) ((l.drop (8 * 1)).take 8) w (by rw [List.length_take, List.length_drop]; omega) ((rdsT byteV_len 8 (rdsD byteV_len 8 (by omega) (oldR hr))) w hs) (by omega))) rfl ?_
      refine x_y (v := .int .u64 (((wordAt l 0)).toNat)) (y_assign rfl) rfl ?_
      refine x_y (v := .int .u64 (((wordAt l 1)).toNat)) (y_assign rfl) rfl ?_
      refine x_nil ?_
      refine thenS_n ?_
      refine wpS_seq ?_
      refine wpS_lex (by kernel_rfl) (by kernel_rfl) ?_
      refine x_y (v := .slice a n c) (y_move rfl) rfl ?_
      refine x_y (v := .slice (subA a c 16 1) (24 - 16) (c - 16)) (y_sliceLH (l' := 16) (h' := 24) rfl rfl rfl Try.underlying61 Try.sizeOf5 (by omega) (by omega) (by omega) (by omega) (by omega)) rfl ?_
      refine x_y (v := .int .u64 (((wordAt l 2)).toNat)) (y_call (args := #[.slice (subA a c 16 1) (24 - 16) (c - 16)]) (v := .int .u64 (((wordAt l 2)).toNat)) Try.call164 (ev1 rfl) (fun w hs => num_c (subA a c 16 1) (24 - 16) (c - 16) ((l.drop (8 * 2)).take 8) w (by rw [List.length_take, List.length_drop]; omega) ((rdsT byteV_len 8 (rdsD byteV_len 16 (by omega) (oldR hr))) w hs) (by omega))) rfl ?_
      refine x_y (v := .slice a n c) (y_move rfl) rfl ?_
      refine x_y (v := .slice (subA a c 24 1) (n - 24) (c - 24)) (y_sliceL (l' := 24) rfl rfl Try.underlying61 Try.sizeOf5 (by omega) (by omega) (by omega)) rfl ?_
      refine x_y (v := .int .u64 (((wordAt l 3)).toNat)) (y_call (args := #[.slice (subA a c 24 1) (n - 24) (c - 24)]) (v := .int .u64 (((wordAt l 3)).toNat)) Try.call164 (ev1 rfl) (fun w hs => num_c (subA a c 24 1) (n - 24) (c - 24) ((l.drop (8 * 3)).take 8) w (by rw [List.length_take, List.length_drop]; omega) ((rdsT byteV_len 8 (rdsD byteV_len 24 (by omega) (oldR hr))) w hs) (by omega))) rfl ?_
      refine x_y (v := .int .u64 (((wordAt l 2)).toNat)) (y_assign rfl) rfl ?_
      refine x_y (v := .int .u64 (((wordAt l 3)).toNat)) (y_assign rfl) rfl ?_
      refine x_nil ?_
      refine thenS_n ?_
      refine wpS_seq ?_
      refine wpS_seq ?_
      refine wpS_region ?_
      refine s_y (v := .int .u64 (((wordAt l 0)).toNat)) (y_move rfl) rfl ?_
      refine s_y (v := .bool (decide ((1 : Int) < (((wordAt l 0)).toNat)))) (y_gtr (a := ((wordAt l 0)).toNat) (b := 1) rfl rfl rfl) rfl ?_
      refine s_y (v := .bool (decide ((1 : Int) < (((wordAt l 0)).toNat)))) (y_move rfl) rfl ?_
      rcases Bool.eq_false_or_eq_true (decide ((1 : Int) < (((wordAt l 0)).toNat))) with b4 | b4
      · -- decide ((1 : Int) < (((wordAt l 0)).toNat)) True
        have p4 := of_decide_eq_true b4
        refine s_no rfl rfl rfl rfl (b' := decide ((1 : Int) < (((wordAt l 0)).toNat))) rfl b4 ?_
        refine s_no rfl rfl rfl rfl (b' := decide ((1 : Int) < (((wordAt l 0)).toNat))) rfl b4 ?_
        refine s_no rfl rfl rfl rfl (b' := decide ((1 : Int) < (((wordAt l 0)).toNat))) rfl b4 ?_
        refine s_nu rfl rfl rfl rfl rfl ?_
        refine s_nu rfl rfl rfl rfl rfl ?_
        refine s_nu rfl rfl rfl rfl rfl ?_
        refine s_nu rfl rfl rfl rfl rfl ?_
        refine s_nu rfl rfl rfl rfl rfl ?_
        refine s_nu rfl rfl rfl rfl rfl ?_
        refine s_nu rfl rfl rfl rfl rfl ?_
        refine s_nu rfl rfl rfl rfl rfl ?_
        refine s_nu rfl rfl rfl rfl rfl ?_
        refine s_nu rfl rfl rfl rfl rfl ?_
        refine s_no rfl rfl rfl rfl (b' := decide ((1 : Int) < (((wordAt l 0)).toNat))) rfl b4 ?_
        refine s_y (v := .bool true) (y_pickT (b := decide ((1 : Int) < (((wordAt l 0)).toNat))) (v := .bool true) rfl b4 rfl) rfl ?_
        refine wpL_nil ?_
        refine thenS_n ?_
        refine wpS_cond_t rfl ?_
        refine wpS_seq ?_
        refine wpS_region ?_
        refine s_y (v := .agg #[.bool false, .int .i64 0, .int .i64 0, .int .i64 0]) (y_buildL (m := []) (vs := #[.bool false, .int .i64 0, .int .i64 0, .int .i64 0]) evn (fun w => by kernel_rfl)) rfl ?_
        refine s_e0 ?_
        refine e_store (vs := [.bool false, .int .i64 0, .int .i64 0, .int .i64 0]) (l' := [.bool false, .int .i64 0, .int .i64 0, .int .i64 0]) rfl rfl rfl rfl Try.sizeOf23 .h (Nat.le_of_ble_eq_true rfl) rfl ?_
        refine s_y (v := .int .i64 4) (y_assign rfl) rfl ?_
        refine wpL_nil ?_
        refine thenS_n ?_
        refine wpS_ret ?_
        refine thenS_r ?_
        refine fin2 (M := [cel b_1 23 [.bool false, .int .i64 0, .int .i64 0, .int .i64 0]]) (.inr rfl) (.p .h .nil) Try.results69 (rvC (vs := [.bool false, .int .i64 0, .int .i64 0, .int .i64 0]) rfl Try.isAgg23 Try.sizeOf23 (fun w hs => ownN .h rfl w hs)) (rvT (v := .int .i64 4) rfl) ?_
        refine fun w' hs => ⟨?_, SH.dropAll (L := []) [_] hs⟩
        first | (rw [take_short (by omega)] <;> rfl) | (rw [take_long (by omega)] <;> rfl) | (rw [take_bad1 (by omega) (by assumption)] <;> rfl) | (rw [take_bad2 (by omega) (by assumption) (by assumption)] <;> rfl) | (rw [take_ok1 (by omega) (by assumption) (by assumption)] <;> rfl) | (rw [take_ok2 (by omega) (by assumption) (by assumption) (by assumption)] <;> rfl) | (rw [take_bad3 (by omega) (by assumption) (by assumption)] <;> rfl) | (rw [take_ok3 (by omega) (by assumption) (by assumption) (by assumption) (by assumption) (by assumption)] <;> rfl)
      · -- decide ((1 : Int) < (((wordAt l 0)).toNat)) False
        have p4 := of_decide_eq_false b4
        refine s_gy (y_move rfl) rfl rfl rfl rfl (b' := decide ((1 : Int) < (((wordAt l 0)).toNat))) rfl b4 ?_
        refine s_gy (y_eql (a := ((wordAt l 0)).toNat) (b := 1) (c := decide ((wordAt l 0) = 1)) rfl rfl (u_eqlL _ 1 (by decide))) rfl rfl rfl rfl (b' := decide ((1 : Int) < (((wordAt l 0)).toNat))) rfl b4 ?_
        refine s_gy (y_move rfl) rfl rfl rfl rfl (b' := decide ((1 : Int) < (((wordAt l 0)).toNat))) rfl b4 ?_
        rcases Bool.eq_false_or_eq_true (decide ((wordAt l 0) = 1)) with b5 | b5
        · -- decide ((wordAt l 0) = 1) True
          have p5 := of_decide_eq_true b5
          refine s_gy (y_move rfl) rfl rfl rfl rfl (b' := decide ((wordAt l 0) = 1)) rfl b5 ?_
          refine s_gy (y_neq (a := ((wordAt l 1)).toNat) (b := 0) (c := decide ((wordAt l 1) ≠ 0)) rfl rfl (u_neqL _ 0 (by decide))) rfl rfl rfl rfl (b' := decide ((wordAt l 0) = 1)) rfl b5 ?_
          refine s_gy (y_move rfl) rfl rfl rfl rfl (b' := decide ((wordAt l 0) = 1)) rfl b5 ?_
          rcases Bool.eq_false_or_eq_true (decide ((wordAt l 1) ≠ 0)) with b6 | b6
          · -- decide ((wordAt l 1) ≠ 0) True
            have p6 := of_decide_eq_true b6
            have z6 : wordAt l 1 ≠ 0 ∨ wordAt l 2 ≠ 0 ∨ wordAt l 3 ≠ 0 := by first | exact .inl (of_decide_eq_true b6) | exact .inr (.inl (of_decide_eq_true b6)) | exact .inr (.inr (of_decide_eq_true b6))
            refine s_no rfl rfl rfl rfl (b' := decide ((wordAt l 1) ≠ 0)) rfl b6 ?_
            refine s_no rfl rfl rfl rfl (b' := decide ((wordAt l 1) ≠ 0)) rfl b6 ?_
            refine s_gy (y_pickT (b := decide ((wordAt l 1) ≠ 0)) (v := .bool true) rfl b6 rfl) rfl rfl rfl rfl (b' := decide ((wordAt l 0) = 1)) rfl b5 ?_
            refine s_gy (y_move rfl) rfl rfl rfl rfl (b' := decide ((wordAt l 0) = 1)) rfl b5 ?_
            refine s_no rfl rfl rfl rfl rfl rfl ?_
            refine s_no rfl rfl rfl rfl rfl rfl ?_
            refine s_gy (y_pickT (v := .bool true) rfl rfl rfl) rfl rfl rfl rfl (b' := decide ((wordAt l 0) = 1)) rfl b5 ?_
            refine s_gy (y_pickT (b := decide ((wordAt l 0) = 1)) (v := .bool true) rfl b5 rfl) rfl rfl rfl rfl (b' := decide ((1 : Int) < (((wordAt l 0)).toNat))) rfl b4 ?_
            refine s_y (v := .bool true) (y_pickF (b := decide ((1 : Int) < (((wordAt l 0)).toNat))) (v := .bool true) rfl b4 rfl) rfl ?_
            refine wpL_nil ?_
            refine thenS_n ?_
            refine wpS_cond_t rfl ?_
            refine wpS_seq ?_
            refine wpS_region ?_
            refine s_y (v := .agg #[.bool false, .int .i64 0, .int .i64 0, .int .i64 0]) (y_buildL (m := []) (vs := #[.bool false, .int .i64 0, .int .i64 0, .int .i64 0]) evn (fun w => by kernel_rfl)) rfl ?_
            refine s_e0 ?_
            refine e_store (vs := [.bool false, .int .i64 0, .int .i64 0, .int .i64 0]) (l' := [.bool false, .int .i64 0, .int .i64 0, .int .i64 0]) rfl rfl rfl rfl Try.sizeOf23 .h (Nat.le_of_ble_eq_true rfl) rfl ?_
            refine s_y (v := .int .i64 4) (y_assign rfl) rfl ?_
            refine wpL_nil ?_
            refine thenS_n ?_
            refine wpS_ret ?_
            refine thenS_r ?_
            refine fin2 (M := [cel b_1 23 [.bool false, .int .i64 0, .int .i64 0, .int .i64 0]]) (.inr rfl) (.p .h .nil) Try.results69 (rvC (vs := [.bool false, .int .i64 0, .int .i64 0, .int .i64 0]) rfl Try.isAgg23 Try.sizeOf23 (fun w hs => ownN .h rfl w hs)) (rvT (v := .int .i64 4) rfl) ?_
            refine fun w' hs => ⟨?_, SH.dropAll (L := []) [_] hs⟩
            first | (rw [take_short (by omega)] <;> rfl) | (rw [take_long (by omega)] <;> rfl) | (rw [take_bad1 (by omega) (by assumption)] <;> rfl) | (rw [take_bad2 (by omega) (by assumption) (by assumption)] <;> rfl) | (rw [take_ok1 (by omega) (by assumption) (by assumption)] <;> rfl) | (rw [take_ok2 (by omega) (by assumption) (by assumption) (by assumption)] <;> rfl) | (rw [take_bad3 (by omega) (by assumption) (by assumption)] <;> rfl) | (rw [take_ok3 (by omega) (by assumption) (by assumption) (by assumption) (by assumption) (by assumption)] <;> rfl)
          · -- decide ((wordAt l 1) ≠ 0) False
            have p6 := of_decide_eq_false b6
            refine s_gy (y_move rfl) rfl rfl rfl rfl (b' := decide ((wordAt l 1) ≠ 0)) rfl b6 ?_
            refine s_gy (y_neq (a := ((wordAt l 2)).toNat) (b := 0) (c := decide ((wordAt l 2) ≠ 0)) rfl rfl (u_neqL _ 0 (by decide))) rfl rfl rfl rfl (b' := decide ((wordAt l 1) ≠ 0)) rfl b6 ?_
            refine s_gy (y_pickF (b := decide ((wordAt l 1) ≠ 0)) (v := .bool (decide ((wordAt l 2) ≠ 0))) rfl b6 rfl) rfl rfl rfl rfl (b' := decide ((wordAt l 0) = 1)) rfl b5 ?_
            refine s_gy (y_move rfl) rfl rfl rfl rfl (b' := decide ((wordAt l 0) = 1)) rfl b5 ?_
            rcases Bool.eq_false_or_eq_true (decide ((wordAt l 2) ≠ 0)) with b7 | b7
            · -- decide ((wordAt l 2) ≠ 0) True
              have p7 := of_decide_eq_true b7
              have z7 : wordAt l 1 ≠ 0 ∨ wordAt l 2 ≠ 0 ∨ wordAt l 3 ≠ 0 := by first | exact .inl (of_decide_eq_true b7) | exact .inr (.inl (of_decide_eq_true b7)) | exact .inr (.inr (of_decide_eq_true b7))
              refine s_no rfl rfl rfl rfl (b' := decide ((wordAt l 2) ≠ 0)) rfl b7 ?_
              refine s_no rfl rfl rfl rfl (b' := decide ((wordAt l 2) ≠ 0)) rfl b7 ?_
              refine s_gy (y_pickT (b := decide ((wordAt l 2) ≠ 0)) (v := .bool true) rfl b7 rfl) rfl rfl rfl rfl (b' := decide ((wordAt l 0) = 1)) rfl b5 ?_
              refine s_gy (y_pickT (b := decide ((wordAt l 0) = 1)) (v := .bool true) rfl b5 rfl) rfl rfl rfl rfl (b' := decide ((1 : Int) < (((wordAt l 0)).toNat))) rfl b4 ?_
              refine s_y (v := .bool true) (y_pickF (b := decide ((1 : Int) < (((wordAt l 0)).toNat))) (v := .bool true) rfl b4 rfl) rfl ?_
              refine wpL_nil ?_
              refine thenS_n ?_
              refine wpS_cond_t rfl ?_
              refine wpS_seq ?_
              refine wpS_region ?_
              refine s_y (v := .agg #[.bool false, .int .i64 0, .int .i64 0, .int .i64 0]) (y_buildL (m := []) (vs := #[.bool false, .int .i64 0, .int .i64 0, .int .i64 0]) evn (fun w => by kernel_rfl)) rfl ?_
              refine s_e0 ?_
              refine e_store (vs := [.bool false, .int .i64 0, .int .i64 0, .int .i64 0]) (l' := [.bool false, .int .i64 0, .int .i64 0, .int .i64 0]) rfl rfl rfl rfl Try.sizeOf23 .h (Nat.le_of_ble_eq_true rfl) rfl ?_
              refine s_y (v := .int .i64 4) (y_assign rfl) rfl ?_
              refine wpL_nil ?_
              refine thenS_n ?_
              refine wpS_ret ?_
              refine thenS_r ?_
              refine fin2 (M := [cel b_1 23 [.bool false, .int .i64 0, .int .i64 0, .int .i64 0]]) (.inr rfl) (.p .h .nil) Try.results69 (rvC (vs := [.bool false, .int .i64 0, .int .i64 0, .int .i64 0]) rfl Try.isAgg23 Try.sizeOf23 (fun w hs => ownN .h rfl w hs)) (rvT (v := .int .i64 4) rfl) ?_
              refine fun w' hs => ⟨?_, SH.dropAll (L := []) [_] hs⟩
              first | (rw [take_short (by omega)] <;> rfl) | (rw [take_long (by omega)] <;> rfl) | (rw [take_bad1 (by omega) (by assumption)] <;> rfl) | (rw [take_bad2 (by omega) (by assumption) (by assumption)] <;> rfl) | (rw [take_ok1 (by omega) (by assumption) (by assumption)] <;> rfl) | (rw [take_ok2 (by omega) (by assumption) (by assumption) (by assumption)] <;> rfl) | (rw [take_bad3 (by omega) (by assumption) (by assumption)] <;> rfl) | (rw [take_ok3 (by omega) (by assumption) (by assumption) (by assumption) (by assumption) (by assumption)] <;> rfl)
            · -- decide ((wordAt l 2) ≠ 0) False
              have p7 := of_decide_eq_false b7
              refine s_gy (y_move rfl) rfl rfl rfl rfl (b' := decide ((wordAt l 2) ≠ 0)) rfl b7 ?_
              refine s_gy (y_neq (a := ((wordAt l 3)).toNat) (b := 0) (c := decide ((wordAt l 3) ≠ 0)) rfl rfl (u_neqL _ 0 (by decide))) rfl rfl rfl rfl (b' := decide ((wordAt l 2) ≠ 0)) rfl b7 ?_
              refine s_gy (y_pickF (b := decide ((wordAt l 2) ≠ 0)) (v := .bool (decide ((wordAt l 3) ≠ 0))) rfl b7 rfl) rfl rfl rfl rfl (b' := decide ((wordAt l 0) = 1)) rfl b5 ?_
              refine s_gy (y_pickT (b := decide ((wordAt l 0) = 1)) (v := .bool (decide ((wordAt l 3) ≠ 0))) rfl b5 rfl) rfl rfl rfl rfl (b' := decide ((1 : Int) < (((wordAt l 0)).toNat))) rfl b4 ?_
              refine s_y (v := .bool (decide ((wordAt l 3) ≠ 0))) (y_pickF (b := decide ((1 : Int) < (((wordAt l 0)).toNat))) (v := .bool (decide ((wordAt l 3) ≠ 0))) rfl b4 rfl) rfl ?_
              refine wpL_nil ?_
              refine thenS_n ?_
              refine wpS_cond (t := decide ((wordAt l 3) ≠ 0)) rfl (fun b8 => ?_) (fun b8 => ?_)
              · -- decide ((wordAt l 3) ≠ 0) true
                have p8 := of_decide_eq_true b8
                have z8 : wordAt l 1 ≠ 0 ∨ wordAt l 2 ≠ 0 ∨ wordAt l 3 ≠ 0 := by first | exact .inl (of_decide_eq_true b8) | exact .inr (.inl (of_decide_eq_true b8)) | exact .inr (.inr (of_decide_eq_true b8))
                refine wpS_seq ?_
                refine wpS_region ?_
                refine s_y (v := .agg #[.bool false, .int .i64 0, .int .i64 0, .int .i64 0]) (y_buildL (m := []) (vs := #[.bool false, .int .i64 0, .int .i64 0, .int .i64 0]) evn (fun w => by kernel_rfl)) rfl ?_
                refine s_e0 ?_
                refine e_store (vs := [.bool false, .int .i64 0, .int .i64 0, .int .i64 0]) (l' := [.bool false, .int .i64 0, .int .i64 0, .int .i64 0]) rfl rfl rfl rfl Try.sizeOf23 .h (Nat.le_of_ble_eq_true rfl) rfl ?_
                refine s_y (v := .int .i64 4) (y_assign rfl) rfl ?_
                refine wpL_nil ?_
                refine thenS_n ?_
                refine wpS_ret ?_
                refine thenS_r ?_
                refine fin2 (M := [cel b_1 23 [.bool false, .int .i64 0, .int .i64 0, .int .i64 0]]) (.inr rfl) (.p .h .nil) Try.results69 (rvC (vs := [.bool false, .int .i64 0, .int .i64 0, .int .i64 0]) rfl Try.isAgg23 Try.sizeOf23 (fun w hs => ownN .h rfl w hs)) (rvT (v := .int .i64 4) rfl) ?_
                refine fun w' hs => ⟨?_, SH.dropAll (L := []) [_] hs⟩
                first | (rw [take_short (by omega)] <;> rfl) | (rw [take_long (by omega)] <;> rfl) | (rw [take_bad1 (by omega) (by assumption)] <;> rfl) | (rw [take_bad2 (by omega) (by assumption) (by assumption)] <;> rfl) | (rw [take_ok1 (by omega) (by assumption) (by assumption)] <;> rfl) | (rw [take_ok2 (by omega) (by assumption) (by assumption) (by assumption)] <;> rfl) | (rw [take_bad3 (by omega) (by assumption) (by assumption)] <;> rfl) | (rw [take_ok3 (by omega) (by assumption) (by assumption) (by assumption) (by assumption) (by assumption)] <;> rfl)
              · -- decide ((wordAt l 3) ≠ 0) false
                have p8 := of_decide_eq_false b8
                refine wpS_skip ?_
                refine thenS_n ?_
                refine wpS_seq ?_
                refine wpS_region ?_
                refine s_y (v := .int .u64 (((wordAt l 0)).toNat)) (y_move rfl) rfl ?_
                refine s_y (v := .bool (decide ((wordAt l 0) = 1))) (y_eql (a := ((wordAt l 0)).toNat) (b := 1) (c := decide ((wordAt l 0) = 1)) rfl rfl (u_eqlL _ 1 (by decide))) rfl ?_
                refine s_y (v := .int .u64 (((wordAt l 1)).toNat)) (y_move rfl) rfl ?_
                refine s_y (v := .int .i64 (((wordAt l 1).toInt64).toInt)) (y_convI (a := ((wordAt l 1)).toNat) (c := ((wordAt l 1).toInt64).toInt) rfl Try.underlying24 Try.underlying2 (ui_conv _)) rfl ?_
                refine s_y (v := .int .u64 (((wordAt l 2)).toNat)) (y_move rfl) rfl ?_
                refine s_y (v := .int .i64 (((wordAt l 2).toInt64).toInt)) (y_convI (a := ((wordAt l 2)).toNat) (c := ((wordAt l 2).toInt64).toInt) rfl Try.underlying24 Try.underlying2 (ui_conv _)) rfl ?_
                refine s_y (v := .int .u64 (((wordAt l 3)).toNat)) (y_move rfl) rfl ?_
                refine s_y (v := .int .i64 (((wordAt l 3).toInt64).toInt)) (y_convI (a := ((wordAt l 3)).toNat) (c := ((wordAt l 3).toInt64).toInt) rfl Try.underlying24 Try.underlying2 (ui_conv _)) rfl ?_
                refine s_y (v := .agg #[.bool (decide ((wordAt l 0) = 1)), .int .i64 (((wordAt l 1).toInt64).toInt), .int .i64 (((wordAt l 2).toInt64).toInt), .int .i64 (((wordAt l 3).toInt64).toInt)]) (y_buildL (m := [(0, .bool (decide ((wordAt l 0) = 1))), (1, .int .i64 (((wordAt l 1).toInt64).toInt)), (2, .int .i64 (((wordAt l 2).toInt64).toInt)), (3, .int .i64 (((wordAt l 3).toInt64).toInt))]) (vs := #[.bool (decide ((wordAt l 0) = 1)), .int .i64 (((wordAt l 1).toInt64).toInt), .int .i64 (((wordAt l 2).toInt64).toInt), .int .i64 (((wordAt l 3).toInt64).toInt)]) (evc rfl (evc rfl (evc rfl (evc rfl evn)))) (fun w => by kernel_rfl)) rfl ?_
                refine s_e0 ?_
                refine e_store (vs := [.bool (decide ((wordAt l 0) = 1)), .int .i64 (((wordAt l 1).toInt64).toInt), .int .i64 (((wordAt l 2).toInt64).toInt), .int .i64 (((wordAt l 3).toInt64).toInt)]) (l' := [.bool (decide ((wordAt l 0) = 1)), .int .i64 (((wordAt l 1).toInt64).toInt), .int .i64 (((wordAt l 2).toInt64).toInt), .int .i64 (((wordAt l 3).toInt64).toInt)]) rfl rfl rfl rfl Try.sizeOf23 .h (Nat.le_of_ble_eq_true rfl) rfl ?_
                refine s_y (v := .int .i64 0) (y_assign rfl) rfl ?_
                refine wpL_nil ?_
                refine thenS_n ?_
                refine wpS_ret ?_
                refine fin2 (M := [cel b_1 23 [.bool (decide ((wordAt l 0) = 1)), .int .i64 (((wordAt l 1).toInt64).toInt), .int .i64 (((wordAt l 2).toInt64).toInt), .int .i64 (((wordAt l 3).toInt64).toInt)]]) (.inr rfl) (.p .h .nil) Try.results69 (rvC (vs := [.bool (decide ((wordAt l 0) = 1)), .int .i64 (((wordAt l 1).toInt64).toInt), .int .i64 (((wordAt l 2).toInt64).toInt), .int .i64 (((wordAt l 3).toInt64).toInt)]) rfl Try.isAgg23 Try.sizeOf23 (fun w hs => ownN .h rfl w hs)) (rvT (v := .int .i64 0) rfl) ?_
                refine fun w' hs => ⟨?_, SH.dropAll (L := []) [_] hs⟩
                first | (rw [take_short (by omega)] <;> rfl) | (rw [take_long (by omega)] <;> rfl) | (rw [take_bad1 (by omega) (by assumption)] <;> rfl) | (rw [take_bad2 (by omega) (by assumption) (by assumption)] <;> rfl) | (rw [take_ok1 (by omega) (by assumption) (by assumption)] <;> rfl) | (rw [take_ok2 (by omega) (by assumption) (by assumption) (by assumption)] <;> rfl) | (rw [take_bad3 (by omega) (by assumption) (by assumption)] <;> rfl) | (rw [take_ok3 (by omega) (by assumption) (by assumption) (by assumption) (by assumption) (by assumption)] <;> rfl)
        · -- decide ((wordAt l 0) = 1) False
          have p5 := of_decide_eq_false b5
          refine s_no rfl rfl rfl rfl (b' := decide ((wordAt l 0) = 1)) rfl b5 ?_
          refine s_no rfl rfl rfl rfl (b' := decide ((wordAt l 0) = 1)) rfl b5 ?_
          refine s_no rfl rfl rfl rfl (b' := decide ((wordAt l 0) = 1)) rfl b5 ?_
          refine s_nu rfl rfl rfl rfl rfl ?_
          refine s_nu rfl rfl rfl rfl rfl ?_
          refine s_no rfl rfl rfl rfl (b' := decide ((wordAt l 0) = 1)) rfl b5 ?_
          refine s_no rfl rfl rfl rfl (b' := decide ((wordAt l 0) = 1)) rfl b5 ?_
          refine s_nu rfl rfl rfl rfl rfl ?_
          refine s_nu rfl rfl rfl rfl rfl ?_
          refine s_no rfl rfl rfl rfl (b' := decide ((wordAt l 0) = 1)) rfl b5 ?_
          refine s_gy (y_pickF (b := decide ((wordAt l 0) = 1)) (v := .bool false) rfl b5 rfl) rfl rfl rfl rfl (b' := decide ((1 : Int) < (((wordAt l 0)).toNat))) rfl b4 ?_
          refine s_y (v := .bool false) (y_pickF (b := decide ((1 : Int) < (((wordAt l 0)).toNat))) (v := .bool false) rfl b4 rfl) rfl ?_
          refine wpL_nil ?_
          refine thenS_n ?_
          refine wpS_cond_f rfl ?_
          refine wpS_skip ?_
          refine thenS_n ?_
          refine wpS_seq ?_
          refine wpS_region ?_
          refine s_y (v := .int .u64 (((wordAt l 0)).toNat)) (y_move rfl) rfl ?_
          refine s_y (v := .bool (decide ((wordAt l 0) = 1))) (y_eql (a := ((wordAt l 0)).toNat) (b := 1) (c := decide ((wordAt l 0) = 1)) rfl rfl (u_eqlL _ 1 (by decide))) rfl ?_
          refine s_y (v := .int .u64 (((wordAt l 1)).toNat)) (y_move rfl) rfl ?_
          refine s_y (v := .int .i64 (((wordAt l 1).toInt64).toInt)) (y_convI (a := ((wordAt l 1)).toNat) (c := ((wordAt l 1).toInt64).toInt) rfl Try.underlying24 Try.underlying2 (ui_conv _)) rfl ?_
          refine s_y (v := .int .u64 (((wordAt l 2)).toNat)) (y_move rfl) rfl ?_
          refine s_y (v := .int .i64 (((wordAt l 2).toInt64).toInt)) (y_convI (a := ((wordAt l 2)).toNat) (c := ((wordAt l 2).toInt64).toInt) rfl Try.underlying24 Try.underlying2 (ui_conv _)) rfl ?_
          refine s_y (v := .int .u64 (((wordAt l 3)).toNat)) (y_move rfl) rfl ?_
          refine s_y (v := .int .i64 (((wordAt l 3).toInt64).toInt)) (y_convI (a := ((wordAt l 3)).toNat) (c := ((wordAt l 3).toInt64).toInt) rfl Try.underlying24 Try.underlying2 (ui_conv _)) rfl ?_
          refine s_y (v := .agg #[.bool (decide ((wordAt l 0) = 1)), .int .i64 (((wordAt l 1).toInt64).toInt), .int .i64 (((wordAt l 2).toInt64).toInt), .int .i64 (((wordAt l 3).toInt64).toInt)]) (y_buildL (m := [(0, .bool (decide ((wordAt l 0) = 1))), (1, .int .i64 (((wordAt l 1).toInt64).toInt)), (2, .int .i64 (((wordAt l 2).toInt64).toInt)), (3, .int .i64 (((wordAt l 3).toInt64).toInt))]) (vs := #[.bool (decide ((wordAt l 0) = 1)), .int .i64 (((wordAt l 1).toInt64).toInt), .int .i64 (((wordAt l 2).toInt64).toInt), .int .i64 (((wordAt l 3).toInt64).toInt)]) (evc rfl (evc rfl (evc rfl (evc rfl evn)))) (fun w => by kernel_rfl)) rfl ?_
          refine s_e0 ?_
          refine e_store (vs := [.bool (decide ((wordAt l 0) = 1)), .int .i64 (((wordAt l 1).toInt64).toInt), .int .i64 (((wordAt l 2).toInt64).toInt), .int .i64 (((wordAt l 3).toInt64).toInt)]) (l' := [.bool (decide ((wordAt l 0) = 1)), .int .i64 (((wordAt l 1).toInt64).toInt), .int .i64 (((wordAt l 2).toInt64).toInt), .int .i64 (((wordAt l 3).toInt64).toInt)]) rfl rfl rfl rfl Try.sizeOf23 .h (Nat.le_of_ble_eq_true rfl) rfl ?_
          refine s_y (v := .int .i64 0) (y_assign rfl) rfl ?_
          refine wpL_nil ?_
          refine thenS_n ?_
          refine wpS_ret ?_
          refine fin2 (M := [cel b_1 23 [.bool (decide ((wordAt l 0) = 1)), .int .i64 (((wordAt l 1).toInt64).toInt), .int .i64 (((wordAt l 2).toInt64).toInt), .int .i64 (((wordAt l 3).toInt64).toInt)]]) (.inr rfl) (.p .h .nil) Try.results69 (rvC (vs := [.bool (decide ((wordAt l 0) = 1)), .int .i64 (((wordAt l 1).toInt64).toInt), .int .i64 (((wordAt l 2).toInt64).toInt), .int .i64 (((wordAt l 3).toInt64).toInt)]) rfl Try.isAgg23 Try.sizeOf23 (fun w hs => ownN .h rfl w hs)) (rvT (v := .int .i64 0) rfl) ?_
          refine fun w' hs => ⟨?_, SH.dropAll (L := []) [_] hs⟩
          first | (rw [take_short (by omega)] <;> rfl) | (rw [take_long (by omega)] <;> rfl) | (rw [take_bad1 (by omega) (by assumption)] <;> rfl) | (rw [take_bad2 (by omega) (by assumption) (by assumption)] <;> rfl) | (rw [take_ok1 (by omega) (by assumption) (by assumption)] <;> rfl) | (rw [take_ok2 (by omega) (by assumption) (by assumption) (by assumption)] <;> rfl) | (rw [take_bad3 (by omega) (by assumption) (by assumption)] <;> rfl) | (rw [take_ok3 (by omega) (by assumption) (by assumption) (by assumption) (by assumption) (by assumption)] <;> rfl)

end Go.Proofs.Ytldkjjnjdjfipaa
