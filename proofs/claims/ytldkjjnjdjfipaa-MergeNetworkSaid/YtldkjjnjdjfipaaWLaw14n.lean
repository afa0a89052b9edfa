/- MergeNetwork, walked. -/
import Derived.Test.YtldkjjnjdjfipaaP14f
import Derived.Test.YtldkjjnjdjfipaaWMrg6
import Derived.Test.YtldkjjnjdjfipaaP11c
namespace Go.Proofs.Ytldkjjnjdjfipaa
open Go Go.RowKit
set_option linter.unusedVariables false
set_option linter.unusedSimpArgs false
set_option maxRecDepth 10000
set_option maxHeartbeats 1000000

theorem network_law (a : Option Addr) (na ca : Nat) (l : List Rec) (blocks size : Int) (blocks1 : -9223372036854775808 ≤ blocks) (blocks2 : blocks < 9223372036854775808) (size1 : -9223372036854775808 ≤ size) (size2 : size < 9223372036854775808) (sq : Bool) (w : World) (hna0 : l.length = na) (hra : Rds w a (l.flatMap recV)) : Pure Try.prog 18 #[.slice a na ca, .int .i64 blocks, .int .i64 size, .bool sq] w (.bool true) := by
  refine calls_S (n := 157) (σ0 := (upd (upd (upd (upd fr0 0 (.slice a na ca)) 1 (.int .i64 blocks)) 2 (.int .i64 size)) 3 (.bool sq))) (D := []) (A := []) Try.func18 rfl Try.ntmps18 rfl (a4_fr _ _ _ _) (SH.start w) ?_
  have hub : u64of blocks % 5 < 5 := Nat.mod_lt _ (by decide)
  have hus : u64of size % 4 < 4 := Nat.mod_lt _ (by decide)
  refine wpS_seq ?_
  refine wpS_region ?_
  refine s_y (v := .bool false) (y_assign rfl) rfl ?_
  refine wpL_nil ?_
  refine thenS_n ?_
  refine wpS_cut (fun ds σ L => ∃ K : Nat, (K < 5) ∧ ds = [] ∧ σ 0 = .slice a na ca ∧ σ 1 = .int .i64 ((((2 ^ K) : Nat) : Int)) ∧ σ 2 = .int .i64 size ∧ σ 3 = .bool sq ∧ Ent L []) ?_ ?_
  · -- up to the cut
    refine wpS_region ?_
    refine s_y (v := .int .i64 blocks) (y_move rfl) rfl ?_
    refine s_y (v := .int .u64 ((((u64of blocks) : Nat) : Int))) (y_convI (a := blocks) (c := (((u64of blocks) : Nat) : Int)) rfl Try.underlying3 Try.underlying46 (u64of_wrap _)) rfl ?_
    refine s_y (v := .int .u64 (((((u64of blocks) % 5) : Nat) : Int))) (y_rem (a := (((u64of blocks) : Nat) : Int)) (b := 5) (c := ((((u64of blocks) % 5) : Nat) : Int)) rfl rfl (by omega) (n_rem _ 5 (by omega))) rfl ?_
    refine s_y (v := .int .i64 ((((2 ^ ((u64of blocks) % 5)) : Nat) : Int))) (y_shl (a := 1) (b := ((((u64of blocks) % 5) : Nat) : Int)) (c := (((2 ^ ((u64of blocks) % 5)) : Nat) : Int)) rfl rfl (by omega) (z1_shl ((((u64of blocks) % 5) : Nat) : Int) (by omega) (by omega))) rfl ?_
    refine s_y (v := .int .i64 ((((2 ^ ((u64of blocks) % 5)) : Nat) : Int))) (y_assign rfl) rfl ?_
    refine wpL_nil ?_
    refine thenS_n ?_
    exact ⟨(u64of blocks % 5), by omega, rfl, rfl, rfl, rfl, rfl, .nil⟩
  rintro ds σ L ⟨K, hf0_1, rfl, h0_1, h1_1, h2_1, h3_1, hE_1⟩
  refine wpS_ent hE_1 ?_; clear hE_1
  have hK7 : K < 5 := by assumption
  have hp1 := Nat.two_pow_pos K
  have hp2 : 2 ^ K ≤ 16 := Nat.pow_le_pow_right (n := 2) (by decide) (show K ≤ 4 by omega)
  have hrt := rnd21 (show K < 7 by omega)
  refine wpS_cut (fun ds σ L => ∃ z : Nat, (1 ≤ z) ∧ (z ≤ 4) ∧ ds = [] ∧ σ 0 = .slice a na ca ∧ σ 1 = .int .i64 ((((2 ^ K) : Nat) : Int)) ∧ σ 2 = .int .i64 (((z : Nat) : Int)) ∧ σ 3 = .bool sq ∧ Ent L []) ?_ ?_
  · -- up to the cut
    refine wpS_region ?_
    refine s_y (v := .int .i64 size) (y_move h2_1) rfl ?_
    refine s_y (v := .int .u64 ((((u64of size) : Nat) : Int))) (y_convI (a := size) (c := (((u64of size) : Nat) : Int)) rfl Try.underlying3 Try.underlying46 (u64of_wrap _)) rfl ?_
    refine s_y (v := .int .u64 (((((u64of size) % 4) : Nat) : Int))) (y_rem (a := (((u64of size) : Nat) : Int)) (b := 4) (c := ((((u64of size) % 4) : Nat) : Int)) rfl rfl (by omega) (n_rem _ 4 (by omega))) rfl ?_
    refine s_y (v := .int .i64 (((((u64of size) % 4) : Nat) : Int))) (y_convI (a := ((((u64of size) % 4) : Nat) : Int)) (c := ((((u64of size) % 4) : Nat) : Int)) rfl Try.underlying46 Try.underlying3 (wI rfl (by omega) (by omega))) rfl ?_
    refine s_y (v := .int .i64 ((((1 + ((u64of size) % 4)) : Nat) : Int))) (y_add (a := 1) (b := ((((u64of size) % 4) : Nat) : Int)) (c := (((1 + ((u64of size) % 4)) : Nat) : Int)) rfl rfl (wI (by omega) (by omega) (by omega))) rfl ?_
    refine s_y (v := .int .i64 ((((1 + ((u64of size) % 4)) : Nat) : Int))) (y_assign rfl) rfl ?_
    refine wpL_nil ?_
    refine thenS_n ?_
    exact ⟨(1 + u64of size % 4), by omega, by omega, rfl, h0_1, h1_1, rfl, h3_1, .nil⟩
  rintro ds σ L ⟨z, hf0_2, hf1_2, rfl, h0_2, h1_2, h2_2, h3_2, hE_2⟩
  refine wpS_ent hE_2 ?_; clear hE_2
  have hmx : ∀ i, i ≤ 16 → i * z ≤ 64 := fun i hi => Nat.mul_le_mul hi (by assumption : z ≤ 4)
  have hm3 := hmx (2 ^ K) hp2
  have hms : ∀ i, (i + 1) * z = i * z + z := fun i => Nat.succ_mul i z
  refine wpS_seq ?_
  refine wpS_region ?_
  refine s_y (v := .slice none 0 0) (y_assign rfl) rfl ?_
  refine wpL_nil ?_
  refine thenS_n ?_
  refine wpS_seq ?_
  refine wpS_seq ?_
  refine wpS_region ?_
  refine s_y (v := .int .i64 0) (y_assign rfl) rfl ?_
  refine wpL_nil ?_
  refine thenS_n ?_
  refine wpS_block ?_
  refine wpS_nil0 1 69 ?_
  refine wpS_sh fam_nil ?_
  refine wpS_loop (fun mez ds σ L => ∃ i : Nat, ∃ hd : List SlH, ∃ bs : List (List Rec), ∃ oa : Option Addr, ∃ oc : Nat, mez = 2 ^ K - i ∧ (i ≤ 2 ^ K) ∧ (hd.length = i) ∧ (bs.length = i) ∧ (∀ k, k < i → (hd.getD k default).n = z) ∧ (bs = blk0 sq l z i) ∧ ds = [] ∧ σ 0 = .slice a na ca ∧ σ 1 = .int .i64 ((((2 ^ K) : Nat) : Int)) ∧ σ 2 = .int .i64 (((z : Nat) : Int)) ∧ σ 3 = .bool sq ∧ σ 9 = .slice oa hd.length oc ∧ σ 10 = .int .i64 (((i : Nat) : Int)) ∧ Ent L [fam hd bs, osl oa oc hd.length 1 69 (hd.flatMap slhV)]) (m0 := 2 ^ K - 0) ⟨0, [], [], none, 0, rfl, by omega, rfl, rfl, (fun k hk => by omega), rfl, rfl, h0_2, h1_2, h2_2, h3_2, rfl, rfl, .p .h (.p .h .nil)⟩ ?_
  rintro mez ds σ L ⟨i, hd, bs, oa, oc, hm_3, hf0_3, hf1_3, hf2_3, hf3_3, hf4_3, rfl, h0_3, h1_3, h2_3, h3_3, h9_3, h10_3, hE_3⟩
  refine wpS_ent hE_3 ?_; clear hE_3
  have hm1 := hmx i (by omega)
  have hm2 := hms i
  refine wpS_seq ?_
  refine wpS_seq ?_
  refine wpS_region ?_
  refine s_y (v := .int .i64 (((i : Nat) : Int))) (y_move h10_3) rfl ?_
  refine s_y (v := .int .i64 ((((2 ^ K) : Nat) : Int))) (y_move h1_3) rfl ?_
  refine s_y (v := .bool (decide (i < (2 ^ K)))) (y_lss (a := ((i : Nat) : Int)) (b := (((2 ^ K) : Nat) : Int)) (c := decide (i < (2 ^ K))) rfl rfl (decide_eq_decide.2 (by omega))) rfl ?_
  refine wpL_nil ?_
  refine thenS_n ?_
  refine wpS_cond (t := decide (i < (2 ^ K))) rfl (fun b4 => ?_) (fun b4 => ?_)
  · -- decide (i < (2 ^ K)) true
    have p4 := of_decide_eq_true b4
    refine wpS_skip ?_
    refine thenS_n ?_
    refine wpS_seq ?_
    refine wpS_block ?_
    refine wpS_seq ?_
    refine wpS_region ?_
    refine s_y (v := .slice none 0 0) (y_assign rfl) rfl ?_
    refine wpL_nil ?_
    refine thenS_n ?_
    refine wpS_seq ?_
    refine wpS_seq ?_
    refine wpS_region ?_
    refine s_y (v := .int .i64 (((i : Nat) : Int))) (y_move h10_3) rfl ?_
    refine s_y (v := .int .i64 (((z : Nat) : Int))) (y_move h2_3) rfl ?_
    refine s_y (v := .int .i64 ((((i * z) : Nat) : Int))) (y_mul (a := ((i : Nat) : Int)) (b := ((z : Nat) : Int)) (c := (((i * z) : Nat) : Int)) rfl rfl (wI (Int.natCast_mul _ _).symm (by omega) (by omega))) rfl ?_
    refine s_y (v := .int .i64 ((((i * z) : Nat) : Int))) (y_assign rfl) rfl ?_
    refine wpL_nil ?_
    refine thenS_n ?_
    refine wpS_block ?_
    refine wpS_nil0 4 23 ?_
    refine wpS_loop (fun mez ds σ L => ∃ q : Nat, ∃ xs : List Rec, ∃ xa : Option Addr, ∃ xc : Nat, mez = z - q ∧ (q ≤ z) ∧ (xs.length = q) ∧ (xs = chkN l (i * z) q) ∧ ds = [] ∧ σ 0 = .slice a na ca ∧ σ 1 = .int .i64 ((((2 ^ K) : Nat) : Int)) ∧ σ 2 = .int .i64 (((z : Nat) : Int)) ∧ σ 3 = .bool sq ∧ σ 9 = .slice oa hd.length oc ∧ σ 10 = .int .i64 (((i : Nat) : Int)) ∧ σ 11 = .slice xa xs.length xc ∧ σ 12 = .int .i64 ((((i * z + q) : Nat) : Int)) ∧ Ent L [osl xa xc xs.length 4 23 (xs.flatMap recV), fam hd bs, osl oa oc hd.length 1 69 (hd.flatMap slhV)]) (m0 := z - 0) ⟨0, [], none, 0, rfl, by omega, rfl, rfl, rfl, h0_3, h1_3, h2_3, h3_3, h9_3, h10_3, rfl, rfl, .p .h (.p .h (.p .h .nil))⟩ ?_
    rintro mez ds σ L ⟨q, xs, xa, xc, hm_5, hf0_5, hf1_5, hf2_5, rfl, h0_5, h1_5, h2_5, h3_5, h9_5, h10_5, h11_5, h12_5, hE_5⟩
    refine wpS_ent hE_5 ?_; clear hE_5
    refine wpS_seq ?_
    refine wpS_seq ?_
    refine wpS_region ?_
    refine s_y (v := .int .i64 ((((i * z + q) : Nat) : Int))) (y_move h12_5) rfl ?_
    refine s_y (v := .int .i64 (((i : Nat) : Int))) (y_move h10_5) rfl ?_
    refine s_y (v := .int .i64 ((((i + 1) : Nat) : Int))) (y_add (a := ((i : Nat) : Int)) (b := 1) (c := (((i + 1) : Nat) : Int)) rfl rfl (wI (by omega) (by omega) (by omega))) rfl ?_
    refine s_y (v := .int .i64 (((z : Nat) : Int))) (y_move h2_5) rfl ?_
    refine s_y (v := .int .i64 (((((i + 1) * z) : Nat) : Int))) (y_mul (a := (((i + 1) : Nat) : Int)) (b := ((z : Nat) : Int)) (c := ((((i + 1) * z) : Nat) : Int)) rfl rfl (wI (Int.natCast_mul _ _).symm (by omega) (by omega))) rfl ?_
    refine s_y (v := .bool (decide ((i * z + q) < ((i + 1) * z)))) (y_lss (a := (((i * z + q) : Nat) : Int)) (b := ((((i + 1) * z) : Nat) : Int)) (c := decide ((i * z + q) < ((i + 1) * z))) rfl rfl (decide_eq_decide.2 (by omega))) rfl ?_
    refine wpL_nil ?_
    refine thenS_n ?_
    refine wpS_cond (t := decide ((i * z + q) < ((i + 1) * z))) rfl (fun b6 => ?_) (fun b6 => ?_)
    · -- decide ((i * z + q) < ((i + 1) * z)) true
      have p6 := of_decide_eq_true b6
      refine wpS_skip ?_
      refine thenS_n ?_
      refine wpS_seq ?_
      refine wpS_block ?_
      refine wpS_seq ?_
      refine wpS_region ?_
      refine s_y (v := .int .i64 ((((i * z + q) : Nat) : Int))) (y_move h12_5) rfl ?_
      refine s_y (v := .slice a na ca) (y_move h0_5) rfl ?_
      refine s_y (v := .int .i64 (((na : Nat) : Int))) (y_len (ty' := 0) (at_ := #[]) rfl Try.underlying69) rfl ?_
      refine s_y (v := .bool (decide ((i * z + q) < na))) (y_lss (a := (((i * z + q) : Nat) : Int)) (b := ((na : Nat) : Int)) (c := decide ((i * z + q) < na)) rfl rfl (decide_eq_decide.2 (by omega))) rfl ?_
      refine wpL_nil ?_
      refine thenS_n ?_
      refine wpS_cond (t := decide ((i * z + q) < na)) rfl (fun b7 => ?_) (fun b7 => ?_)
      · -- decide ((i * z + q) < na) true
        have p7 := of_decide_eq_true b7
        refine wpS_region ?_
        refine s_y (v := .slice xa xs.length xc) (y_move h11_5) rfl ?_
        refine s_y (v := .slice a na ca) (y_move h0_5) rfl ?_
        refine s_y (v := .int .i64 ((((i * z + q) : Nat) : Int))) (y_move h12_5) rfl ?_
        refine s_y (v := .pointer (some ⟨aB a, aO a + (i * z + q) * 4, none⟩)) (y_idx (o := (i * z + q) * 4) rfl rfl Try.underlying69 Try.sizeOf23 (oldR hra) ((fl_len recV_len _).trans (by first | omega | (simp only [List.length_set, List.length_take, List.length_drop]; done) | (simp only [List.length_set, List.length_take, List.length_drop]; omega))) (by decide) (by omega) (by omega) (by omega)) rfl ?_
        refine s_y (v := .agg #[.bool ((l.getD (i * z + q) default).dead), .int .i64 (((l.getD (i * z + q) default).key).toInt), .int .i64 (((l.getD (i * z + q) default).value).toInt), .int .i64 (((l.getD (i * z + q) default).seq).toInt)]) (y_loadN (vs := recV (l.getD (i * z + q) default)) rfl Try.isAgg23 Try.sizeOf23 (rdN (oldR hra) (fl_getN recV_len l (i * z + q) (by first | omega | (simp only [List.length_set, List.length_take, List.length_drop]; done) | (simp only [List.length_set, List.length_take, List.length_drop]; omega))))) rfl ?_
        refine s_e rfl ?_
        refine e_bsliceL (e := 23) (m := [(0, .agg #[.bool ((l.getD (i * z + q) default).dead), .int .i64 (((l.getD (i * z + q) default).key).toInt), .int .i64 (((l.getD (i * z + q) default).value).toInt), .int .i64 (((l.getD (i * z + q) default).seq).toInt)])]) (l := [.bool ((l.getD (i * z + q) default).dead), .int .i64 (((l.getD (i * z + q) default).key).toInt), .int .i64 (((l.getD (i * z + q) default).value).toInt), .int .i64 (((l.getD (i * z + q) default).seq).toInt)]) (evc rfl evn) (fun w => by kernel_rfl) ?_
        intro b_8
        refine s_e rfl ?_
        refine e_appendL (enc := recV) (xs := (xs : List Rec)) (ns := ([(l.getD (i * z + q) default)] : List Rec)) (zs := (xs ++ [(l.getD (i * z + q) default)])) (bytes := 32) recV_len recV_one Try.underlying69 (i := Try.t23) rfl rfl rfl rfl rfl (by decide) rfl rfl (by first | rfl | omega) (by first | rfl | omega) (.t .h) (fun w hs => celR .h w hs) (by first | rfl | simp) (by (try simp only [List.length_append, List.length_cons, List.length_nil] at *); omega) (by (try simp only [List.length_append, List.length_cons, List.length_nil] at *); omega) ?_
        intro a_9 c_10
        refine s_y (v := .slice a_9 ((xs ++ [(l.getD (i * z + q) default)]).length) c_10) (y_assign rfl) rfl ?_
        refine wpL_nil ?_
        refine blockS_n ?_
        refine thenS_n ?_
        refine wpS_region ?_
        refine s_y (v := .int .i64 ((((i * z + q) : Nat) : Int))) (y_move h12_5) rfl ?_
        refine s_y (v := .int .i64 (((((i * z + q) + 1) : Nat) : Int))) (y_add (a := (((i * z + q) : Nat) : Int)) (b := 1) (c := ((((i * z + q) + 1) : Nat) : Int)) rfl rfl (wI (by omega) (by omega) (by omega))) rfl ?_
        refine s_y (v := .int .i64 (((((i * z + q) + 1) : Nat) : Int))) (y_assign rfl) rfl ?_
        refine wpL_nil ?_
        refine thenS_n ?_
        exact ⟨_, by omega, ⟨(q + 1), (xs ++ [(l.getD (i * z + q) default)]), a_9, c_10, rfl, by omega, (by rw [List.length_append, List.length_singleton]; omega), (by first | exact chk_in (by assumption) (by omega) | exact chk_out (by assumption) (by omega)), rfl, h0_5, h1_5, h2_5, h3_5, h9_5, h10_5, rfl, rfl, .p .h (.p (.t .h) (.p (.t .h) .nil))⟩⟩
      · -- decide ((i * z + q) < na) false
        have p7 := of_decide_eq_false b7
        refine wpS_region ?_
        refine s_y (v := .slice xa xs.length xc) (y_move h11_5) rfl ?_
        refine s_y (v := .agg #[.bool true, .int .i64 0, .int .i64 0, .int .i64 0]) (y_buildL (m := [(0, .bool true)]) (vs := #[.bool true, .int .i64 0, .int .i64 0, .int .i64 0]) (evc rfl evn) (fun w => by kernel_rfl)) rfl ?_
        refine s_e rfl ?_
        refine e_bsliceL (e := 23) (m := [(0, .agg #[.bool true, .int .i64 0, .int .i64 0, .int .i64 0])]) (l := [.bool true, .int .i64 0, .int .i64 0, .int .i64 0]) (evc rfl evn) (fun w => by kernel_rfl) ?_
        intro b_11
        refine s_e rfl ?_
        refine e_appendL (enc := recV) (xs := (xs : List Rec)) (ns := ([(Rec.mk true 0 0 0)] : List Rec)) (zs := (xs ++ [(Rec.mk true 0 0 0)])) (bytes := 32) recV_len recV_one Try.underlying69 (i := Try.t23) rfl rfl rfl rfl rfl (by decide) rfl rfl (by first | rfl | omega) (by first | rfl | omega) (.t .h) (fun w hs => celR .h w hs) (by first | rfl | simp) (by (try simp only [List.length_append, List.length_cons, List.length_nil] at *); omega) (by (try simp only [List.length_append, List.length_cons, List.length_nil] at *); omega) ?_
        intro a_12 c_13
        refine s_y (v := .slice a_12 ((xs ++ [(Rec.mk true 0 0 0)]).length) c_13) (y_assign rfl) rfl ?_
        refine wpL_nil ?_
        refine blockS_n ?_
        refine thenS_n ?_
        refine wpS_region ?_
        refine s_y (v := .int .i64 ((((i * z + q) : Nat) : Int))) (y_move h12_5) rfl ?_
        refine s_y (v := .int .i64 (((((i * z + q) + 1) : Nat) : Int))) (y_add (a := (((i * z + q) : Nat) : Int)) (b := 1) (c := ((((i * z + q) + 1) : Nat) : Int)) rfl rfl (wI (by omega) (by omega) (by omega))) rfl ?_
        refine s_y (v := .int .i64 (((((i * z + q) + 1) : Nat) : Int))) (y_assign rfl) rfl ?_
        refine wpL_nil ?_
        refine thenS_n ?_
        exact ⟨_, by omega, ⟨(q + 1), (xs ++ [(Rec.mk true 0 0 0)]), a_12, c_13, rfl, by omega, (by rw [List.length_append, List.length_singleton]; omega), (by first | exact chk_in (by assumption) (by omega) | exact chk_out (by assumption) (by omega)), rfl, h0_5, h1_5, h2_5, h3_5, h9_5, h10_5, rfl, rfl, .p .h (.p (.t .h) (.p (.t .h) .nil))⟩⟩
    · -- decide ((i * z + q) < ((i + 1) * z)) false
      have p6 := of_decide_eq_false b6
      refine wpS_exit ?_
      refine thenS_x ?_
      refine thenS_x ?_
      refine blockS_h ?_
      refine thenS_n ?_
      refine wpS_region ?_
      refine s_y (v := .slice oa hd.length oc) (y_move h9_5) rfl ?_
      refine s_y (v := .slice xa xs.length xc) (y_move h11_5) rfl ?_
      refine s_y (v := .bool sq) (y_move h3_5) rfl ?_
      refine s_e rfl ?_
      refine e_call (f := 74) (args := #[.slice xa xs.length xc, .bool sq]) (X := Option Addr × Nat) (A := []) (M := [osl xa xc xs.length 4 23 (xs.flatMap recV), fam hd bs, osl oa oc hd.length 1 69 (hd.flatMap slhV)]) (V := slV (msort sq xs)) (A' := fun x => [slR recV 4 23 (msort sq xs) x]) (C := fun x => (msort sq xs).length ≤ x.2) Try.call74 (ev2 rfl rfl) (.p .h (.p .h (.p .h .nil))) (fun w hs => (sort_c xa xs.length xc xs sq w rfl (oslR .h w hs) (by omega)).cap) ?_
      rintro ⟨a_14, c_15⟩ hc16; replace hc16 : (msort sq xs).length ≤ c_15 := hc16
      refine s_e rfl ?_
      refine e_bsliceL (e := 69) (m := [(0, .slice a_14 ((msort sq xs).length) c_15)]) (l := [.slice a_14 ((msort sq xs).length) c_15]) (evc rfl evn) (fun w => by kernel_rfl) ?_
      intro b_18
      refine s_e rfl ?_
      refine OpE.ent (fam_push (SlH.mk a_14 ((msort sq xs).length) c_15) (.t .h) (.t (.t .h)) (by omega)) ?_
      refine e_appendL (enc := slhV) (xs := (hd : List SlH)) (ns := ([(SlH.mk a_14 ((msort sq xs).length) c_15)] : List SlH)) (zs := (hd ++ [(SlH.mk a_14 ((msort sq xs).length) c_15)])) (bytes := 24) slhV_len slhV_one Try.underlying80 (i := Try.t69) rfl rfl rfl rfl rfl (by decide) rfl rfl (by first | rfl | omega) (by first | rfl | omega) (.t (.t (.t .h))) (fun w hs => celR (.t .h) w hs) (by first | rfl | simp) (by (try simp only [List.length_append, List.length_cons, List.length_nil] at *); omega) (by (try simp only [List.length_append, List.length_cons, List.length_nil] at *); omega) ?_
      intro a_19 c_20
      refine s_y (v := .slice a_19 ((hd ++ [(SlH.mk a_14 ((msort sq xs).length) c_15)]).length) c_20) (y_assign rfl) rfl ?_
      refine wpL_nil ?_
      refine blockS_n ?_
      refine thenS_n ?_
      refine wpS_region ?_
      refine s_y (v := .int .i64 (((i : Nat) : Int))) (y_move h10_5) rfl ?_
      refine s_y (v := .int .i64 ((((i + 1) : Nat) : Int))) (y_add (a := ((i : Nat) : Int)) (b := 1) (c := (((i + 1) : Nat) : Int)) rfl rfl (wI (by omega) (by omega) (by omega))) rfl ?_
      refine s_y (v := .int .i64 ((((i + 1) : Nat) : Int))) (y_assign rfl) rfl ?_
      refine wpL_nil ?_
      refine thenS_n ?_
      exact ⟨_, by omega, ⟨(i + 1), (hd ++ [(SlH.mk a_14 ((msort sq xs).length) c_15)]), (bs ++ [(msort sq xs)]), a_19, c_20, rfl, by omega, (by rw [List.length_append, List.length_singleton]; omega), (by rw [List.length_append, List.length_singleton]; omega), (hn_app (by omega) (by assumption) (by show (msort sq xs).length = z; rw [msort_len]; omega)), (by rw [(by assumption : bs = _), (by assumption : xs = _), show q = z by omega]; exact blk0_next sq l z i), rfl, h0_5, h1_5, h2_5, h3_5, rfl, rfl, .p (.t .h) (.p .h .nil)⟩⟩
  · -- decide (i < (2 ^ K)) false
    have p4 := of_decide_eq_false b4
    refine wpS_exit ?_
    refine thenS_x ?_
    refine thenS_x ?_
    refine blockS_h ?_
    refine thenS_n ?_
    refine wpS_seq ?_
    refine wpS_seq ?_
    refine wpS_region ?_
    refine s_y (v := .int .i64 0) (y_assign rfl) rfl ?_
    refine wpL_nil ?_
    refine thenS_n ?_
    refine wpS_block ?_
    refine wpS_loop (fun mez ds σ L => ∃ r : Nat, ∃ hd2 : List SlH, ∃ bs2 : List (List Rec), mez = rnd ((2 ^ K : Nat) : Int) - r ∧ (r ≤ rnd ((2 ^ K : Nat) : Int)) ∧ (hd2.length = 2 ^ K) ∧ (∀ k, k < 2 ^ K → (hd2.getD k default).n = z) ∧ (BInv sq (2 ^ K) z bs2) ∧ (bs2 = bnet sq K (blk0 sq l z (2 ^ K)) r) ∧ ds = [] ∧ σ 1 = .int .i64 ((((2 ^ K) : Nat) : Int)) ∧ σ 2 = .int .i64 (((z : Nat) : Int)) ∧ σ 3 = .bool sq ∧ σ 9 = .slice oa hd.length oc ∧ σ 13 = .int .i64 (((r : Nat) : Int)) ∧ Ent L [fam hd2 bs2, osl oa oc hd.length 1 69 (hd2.flatMap slhV)]) (m0 := rnd ((2 ^ K : Nat) : Int) - 0) ⟨0, hd, bs, rfl, by omega, by omega, (by rw [← show i = 2 ^ K by omega]; assumption), (by rw [(by assumption : bs = _), show i = 2 ^ K by omega]; exact blk0_inv _ _ _ _), (by rw [(by assumption : bs = _), show i = 2 ^ K by omega]; rfl), rfl, h1_3, h2_3, h3_3, h9_3, rfl, .p .h (.p .h .nil)⟩ ?_
    rintro mez ds σ L ⟨r, hd2, bs2, hm_21, hf0_21, hf1_21, hf2_21, hf3_21, hf4_21, rfl, h1_21, h2_21, h3_21, h9_21, h13_21, hE_21⟩
    refine wpS_ent hE_21 ?_; clear hE_21
    have hB := (by assumption : BInv sq (2 ^ K) z bs2)
    have HN := (by assumption : ∀ k, k < 2 ^ K → (hd2.getD k default).n = z)
    have hbl : bs2.length = 2 ^ K := hB.1
    refine wpS_seq ?_
    refine wpS_seq ?_
    refine wpS_region ?_
    refine s_y (v := .int .i64 (((r : Nat) : Int))) (y_move h13_21) rfl ?_
    refine s_y (v := .int .i64 ((((2 ^ K) : Nat) : Int))) (y_move h1_21) rfl ?_
    refine s_y (v := .int .i64 ((((rnd ((((2 ^ K) : Nat) : Int))) : Nat) : Int))) (y_call (args := #[.int .i64 ((((2 ^ K) : Nat) : Int))]) (v := .int .i64 ((((rnd ((((2 ^ K) : Nat) : Int))) : Nat) : Int))) Try.call56 (ev1 rfl) (fun w hs => rrnd_c ((((2 ^ K) : Nat) : Int)) (by omega) (by omega) w)) rfl ?_
    refine s_y (v := .bool (decide (r < (rnd ((((2 ^ K) : Nat) : Int)))))) (y_lss (a := ((r : Nat) : Int)) (b := (((rnd ((((2 ^ K) : Nat) : Int))) : Nat) : Int)) (c := decide (r < (rnd ((((2 ^ K) : Nat) : Int))))) rfl rfl (decide_eq_decide.2 (by omega))) rfl ?_
    refine wpL_nil ?_
    refine thenS_n ?_
    refine wpS_cond (t := decide (r < (rnd ((((2 ^ K) : Nat) : Int))))) rfl (fun b22 => ?_) (fun b22 => ?_)
    · -- decide (r < (rnd ((((2 ^ K) : Nat) : Int)))) true
      have p22 := of_decide_eq_true b22
      refine wpS_skip ?_
      refine thenS_n ?_
      refine wpS_seq ?_
      refine wpS_block ?_
      refine wpS_seq ?_
      refine wpS_region ?_
      refine s_y (v := .int .i64 ((((2 ^ K) : Nat) : Int))) (y_move h1_21) rfl ?_
      refine s_y (v := .int .i64 (((r : Nat) : Int))) (y_move h13_21) rfl ?_
      refine s_e rfl ?_
      refine e_call (f := 55) (args := #[.int .i64 ((((2 ^ K) : Nat) : Int)), .int .i64 (((r : Nat) : Int))]) (X := Option Addr × Nat) (A := []) (M := [fam hd2 bs2, osl oa oc hd.length 1 69 (hd2.flatMap slhV)]) (V := fun x : Option Addr × Nat => .tuple #[slV (frsZ ((((2 ^ K) : Nat) : Int)) (((r : Nat) : Int))) x, .int .i64 ((far ((((2 ^ K) : Nat) : Int)) (((r : Nat) : Int)) : Nat) : Int)]) (A' := fun x => [slR intV 1 3 (frsZ ((((2 ^ K) : Nat) : Int)) (((r : Nat) : Int))) x]) (C := fun _ => True) Try.call55 (ev2 rfl rfl) (.p .h (.p .h .nil)) (fun w hs => rround_c ((((2 ^ K) : Nat) : Int)) (((r : Nat) : Int)) (by omega) (by omega) (by omega) (by omega) w) ?_
      rintro ⟨a_23, c_24⟩ -
      refine s_y (v := .tuple #[.slice a_23 ((frsZ ((((2 ^ K) : Nat) : Int)) (((r : Nat) : Int))).length) c_24, .int .i64 ((((far ((((2 ^ K) : Nat) : Int)) (((r : Nat) : Int))) : Nat) : Int))]) (y_move rfl) rfl ?_
      refine s_y (v := .slice a_23 ((frsZ ((((2 ^ K) : Nat) : Int)) (((r : Nat) : Int))).length) c_24) (y_extract (v := .slice a_23 ((frsZ ((((2 ^ K) : Nat) : Int)) (((r : Nat) : Int))).length) c_24) rfl rfl) rfl ?_
      refine s_y (v := .int .i64 ((((far ((((2 ^ K) : Nat) : Int)) (((r : Nat) : Int))) : Nat) : Int))) (y_extract (v := .int .i64 ((((far ((((2 ^ K) : Nat) : Int)) (((r : Nat) : Int))) : Nat) : Int))) rfl rfl) rfl ?_
      refine s_y (v := .slice a_23 ((frsZ ((((2 ^ K) : Nat) : Int)) (((r : Nat) : Int))).length) c_24) (y_assign rfl) rfl ?_
      refine s_y (v := .int .i64 ((((far ((((2 ^ K) : Nat) : Int)) (((r : Nat) : Int))) : Nat) : Int))) (y_assign rfl) rfl ?_
      refine wpL_nil ?_
      refine thenS_n ?_
      refine wpS_seq ?_
      refine wpS_region ?_
      refine s_y (v := .int .i64 0) (y_assign rfl) rfl ?_
      refine wpL_nil ?_
      refine thenS_n ?_
      refine wpS_block ?_
      have hfl2 := frs_len ((2 ^ K : Nat) : Int) r
      have hZl := frsZ_len ((2 ^ K : Nat) : Int) r
      refine wpS_loop (fun mez ds σ L => ∃ i3 : Nat, ∃ hd3 : List SlH, ∃ bs3 : List (List Rec), mez = (frsZ ((2 ^ K : Nat) : Int) r).length - i3 ∧ (i3 ≤ (frsZ ((2 ^ K : Nat) : Int) r).length) ∧ (hd3.length = 2 ^ K) ∧ (∀ k, k < 2 ^ K → (hd3.getD k default).n = z) ∧ (BInv sq (2 ^ K) z bs3) ∧ (bs3 = bcmp sq K r bs2 i3) ∧ ds = [] ∧ σ 1 = .int .i64 ((((2 ^ K) : Nat) : Int)) ∧ σ 2 = .int .i64 (((z : Nat) : Int)) ∧ σ 3 = .bool sq ∧ σ 9 = .slice oa hd.length oc ∧ σ 13 = .int .i64 (((r : Nat) : Int)) ∧ σ 14 = .slice a_23 ((frsZ ((((2 ^ K) : Nat) : Int)) (((r : Nat) : Int))).length) c_24 ∧ σ 15 = .int .i64 ((((far ((((2 ^ K) : Nat) : Int)) (((r : Nat) : Int))) : Nat) : Int)) ∧ σ 16 = .int .i64 (((i3 : Nat) : Int)) ∧ Ent L [osl a_23 c_24 ((frsZ ((((2 ^ K) : Nat) : Int)) (((r : Nat) : Int))).length) 1 3 ((frsZ ((((2 ^ K) : Nat) : Int)) (((r : Nat) : Int))).flatMap intV), fam hd3 bs3, osl oa oc hd.length 1 69 (hd3.flatMap slhV)]) (m0 := (frsZ ((2 ^ K : Nat) : Int) r).length - 0) ⟨0, hd2, bs2, rfl, by omega, by omega, (by assumption), (by assumption), rfl, rfl, h1_21, h2_21, h3_21, h9_21, h13_21, rfl, rfl, rfl, .p .h (.p .h (.p .h .nil))⟩ ?_
      rintro mez ds σ L ⟨i3, hd3, bs3, hm_26, hf0_26, hf1_26, hf2_26, hf3_26, hf4_26, rfl, h1_26, h2_26, h3_26, h9_26, h13_26, h14_26, h15_26, h16_26, hE_26⟩
      refine wpS_ent hE_26 ?_; clear hE_26
      have hB := (by assumption : BInv sq (2 ^ K) z bs3)
      have HN := (by assumption : ∀ k, k < 2 ^ K → (hd3.getD k default).n = z)
      have hbl : bs3.length = 2 ^ K := hB.1
      refine wpS_seq ?_
      refine wpS_seq ?_
      refine wpS_region ?_
      refine s_y (v := .int .i64 (((i3 : Nat) : Int))) (y_move h16_26) rfl ?_
      refine s_y (v := .slice a_23 ((frsZ ((((2 ^ K) : Nat) : Int)) (((r : Nat) : Int))).length) c_24) (y_move h14_26) rfl ?_
      refine s_y (v := .int .i64 ((((frsZ ((((2 ^ K) : Nat) : Int)) (((r : Nat) : Int))).length : Nat) : Int))) (y_len (ty' := 0) (at_ := #[]) rfl Try.underlying39) rfl ?_
      refine s_y (v := .bool (decide (i3 < ((frsZ ((((2 ^ K) : Nat) : Int)) (((r : Nat) : Int))).length)))) (y_lss (a := ((i3 : Nat) : Int)) (b := (((frsZ ((((2 ^ K) : Nat) : Int)) (((r : Nat) : Int))).length : Nat) : Int)) (c := decide (i3 < ((frsZ ((((2 ^ K) : Nat) : Int)) (((r : Nat) : Int))).length))) rfl rfl (decide_eq_decide.2 (by omega))) rfl ?_
      refine wpL_nil ?_
      refine thenS_n ?_
      refine wpS_cond (t := decide (i3 < ((frsZ ((((2 ^ K) : Nat) : Int)) (((r : Nat) : Int))).length))) rfl (fun b27 => ?_) (fun b27 => ?_)
      · -- decide (i3 < ((frsZ ((((2 ^ K) : Nat) : Int)) (((r : Nat) : Int))).length)) true
        have p27 := of_decide_eq_true b27
        obtain ⟨pa, hfi⟩ := pairK (K := K) (r := r) (i := i3) (by omega) (by omega) (by rw [← frsZ_len]; omega)
        have hzl3 : i3 < (frs ((2 ^ K : Nat) : Int) ((r : Nat) : Int)).length := by rw [← frsZ_len]; omega
        have hDD := farK (K := K) (r := r) (by omega) (by omega)
        have hDp := Nat.two_pow_pos ((stK K r).2 - 1)
        have hlt := hfi.lt
        rw [← hDD] at hlt hDp
        have hna := HN pa (by omega)
        have hnb := HN (pa + (far ((2 ^ K : Nat) : Int) ((r : Nat) : Int))) (by omega)
        have hla := binv_len hB (show pa < 2 ^ K by omega)
        have hlb := binv_len hB (show pa + (far ((2 ^ K : Nat) : Int) ((r : Nat) : Int)) < 2 ^ K by omega)
        refine wpS_skip ?_
        refine thenS_n ?_
        refine wpS_seq ?_
        refine wpS_block ?_
        refine wpS_seq ?_
        refine wpS_region ?_
        refine s_y (v := .slice a_23 ((frsZ ((((2 ^ K) : Nat) : Int)) (((r : Nat) : Int))).length) c_24) (y_move h14_26) rfl ?_
        refine s_y (v := .int .i64 (((i3 : Nat) : Int))) (y_move h16_26) rfl ?_
        refine s_y (v := .pointer (some ⟨aB a_23, aO a_23 + i3 * 1, none⟩)) (y_idx (o := i3 * 1) rfl rfl Try.underlying39 Try.sizeOf3 (oslR .h) (fl_len intV_len _) (by decide) (by omega) (by omega) (by omega)) rfl ?_
        refine s_y (v := .int .i64 (((frsZ ((((2 ^ K) : Nat) : Int)) (((r : Nat) : Int))).getD i3 default))) (y_load1 (v := .int .i64 (((frsZ ((((2 ^ K) : Nat) : Int)) (((r : Nat) : Int))).getD i3 default))) rfl Try.isAgg3 (rd1 (k := i3 * 1) (oslR .h) (fl_get0 intV_len (frsZ ((((2 ^ K) : Nat) : Int)) (((r : Nat) : Int))) i3 (by first | omega | (simp only [List.length_set, List.length_take, List.length_drop]; done) | (simp only [List.length_set, List.length_take, List.length_drop]; omega)) rfl))) rfl ?_
        refine s_y (v := .int .i64 (((frsZ ((((2 ^ K) : Nat) : Int)) (((r : Nat) : Int))).getD i3 default))) (y_assign rfl) rfl ?_
        refine wpL_nil ?_
        refine thenS_n ?_
        refine wpS_seq ?_
        refine wpS_anyL [osl oa oc hd.length 1 69 (hd3.flatMap slhV)] [] (by kernel_rfl) ?_
        refine anyS_take (i := 0) rfl (by kernel_rfl) (by kernel_rfl) (by kernel_rfl) (by kernel_rfl) (Yq.of (v := .slice oa hd.length oc) (y_move h9_26) rfl) (.p (.t (.t .h)) .nil) ?_
        refine anyS_take (i := 1) rfl (by kernel_rfl) (by kernel_rfl) (by kernel_rfl) (by kernel_rfl) (Yq.of (v := .int .i64 (((pa : Nat) : Int))) (y_move (Eq.trans rfl (congrArg (Value.int .i64) hfi.z))) rfl) (.p (.t (.t .h)) .nil) ?_
        refine anyS_take (i := 2) rfl (by kernel_rfl) (by kernel_rfl) (by kernel_rfl) (by kernel_rfl) (Yq.of (v := .pointer (some ⟨aB oa, aO oa + pa * 1, none⟩)) (y_idx (o := pa * 1) rfl rfl Try.underlying80 Try.sizeOf69 (oslR .h) ((fl_len slhV_len _).trans (by first | omega | (simp only [List.length_set, List.length_take, List.length_drop]; done) | (simp only [List.length_set, List.length_take, List.length_drop]; omega))) (by decide) (by omega) (by omega) (by omega)) rfl) (.p (.t (.t .h)) .nil) ?_
        refine anyS_take (i := 3) rfl (by kernel_rfl) (by kernel_rfl) (by kernel_rfl) (by kernel_rfl) (Yq.of (v := .slice ((hd3.getD pa default).a) ((hd3.getD pa default).n) ((hd3.getD pa default).c)) (y_load1 (v := .slice ((hd3.getD pa default).a) ((hd3.getD pa default).n) ((hd3.getD pa default).c)) rfl Try.isAgg69 (rd1 (k := pa * 1) (oslR .h) (fl_get0 slhV_len hd3 pa (by first | omega | (simp only [List.length_set, List.length_take, List.length_drop]; done) | (simp only [List.length_set, List.length_take, List.length_drop]; omega)) rfl))) rfl) (.p (.t (.t .h)) .nil) ?_
        refine anyS_take (i := 4) rfl (by kernel_rfl) (by kernel_rfl) (by kernel_rfl) (by kernel_rfl) (Yq.of (v := .slice oa hd.length oc) (y_move h9_26) rfl) (.p (.t (.t .h)) .nil) ?_
        refine anyS_take (i := 5) rfl (by kernel_rfl) (by kernel_rfl) (by kernel_rfl) (by kernel_rfl) (Yq.of (v := .int .i64 (((pa : Nat) : Int))) (y_move (Eq.trans rfl (congrArg (Value.int .i64) hfi.z))) rfl) (.p (.t (.t .h)) .nil) ?_
        refine anyS_take (i := 6) rfl (by kernel_rfl) (by kernel_rfl) (by kernel_rfl) (by kernel_rfl) (Yq.of (v := .int .i64 ((((far ((((2 ^ K) : Nat) : Int)) (((r : Nat) : Int))) : Nat) : Int))) (y_move h15_26) rfl) (.p (.t (.t .h)) .nil) ?_
        refine anyS_take (i := 7) rfl (by kernel_rfl) (by kernel_rfl) (by kernel_rfl) (by kernel_rfl) (Yq.of (v := .int .i64 ((((pa + (far ((((2 ^ K) : Nat) : Int)) (((r : Nat) : Int)))) : Nat) : Int))) (y_add (a := ((pa : Nat) : Int)) (b := (((far ((((2 ^ K) : Nat) : Int)) (((r : Nat) : Int))) : Nat) : Int)) (c := (((pa + (far ((((2 ^ K) : Nat) : Int)) (((r : Nat) : Int)))) : Nat) : Int)) rfl rfl (wI (by omega) (by omega) (by omega))) rfl) (.p (.t (.t .h)) .nil) ?_
        refine anyS_take (i := 8) rfl (by kernel_rfl) (by kernel_rfl) (by kernel_rfl) (by kernel_rfl) (Yq.of (v := .pointer (some ⟨aB oa, aO oa + (pa + (far ((((2 ^ K) : Nat) : Int)) (((r : Nat) : Int)))) * 1, none⟩)) (y_idx (o := (pa + (far ((((2 ^ K) : Nat) : Int)) (((r : Nat) : Int)))) * 1) rfl rfl Try.underlying80 Try.sizeOf69 (oslR .h) ((fl_len slhV_len _).trans (by first | omega | (simp only [List.length_set, List.length_take, List.length_drop]; done) | (simp only [List.length_set, List.length_take, List.length_drop]; omega))) (by decide) (by omega) (by omega) (by omega)) rfl) (.p (.t (.t .h)) .nil) ?_
        refine anyS_take (i := 9) rfl (by kernel_rfl) (by kernel_rfl) (by kernel_rfl) (by kernel_rfl) (Yq.of (v := .slice ((hd3.getD (pa + (far ((((2 ^ K) : Nat) : Int)) (((r : Nat) : Int)))) default).a) ((hd3.getD (pa + (far ((((2 ^ K) : Nat) : Int)) (((r : Nat) : Int)))) default).n) ((hd3.getD (pa + (far ((((2 ^ K) : Nat) : Int)) (((r : Nat) : Int)))) default).c)) (y_load1 (v := .slice ((hd3.getD (pa + (far ((((2 ^ K) : Nat) : Int)) (((r : Nat) : Int)))) default).a) ((hd3.getD (pa + (far ((((2 ^ K) : Nat) : Int)) (((r : Nat) : Int)))) default).n) ((hd3.getD (pa + (far ((((2 ^ K) : Nat) : Int)) (((r : Nat) : Int)))) default).c)) rfl Try.isAgg69 (rd1 (k := (pa + (far ((((2 ^ K) : Nat) : Int)) (((r : Nat) : Int)))) * 1) (oslR .h) (fl_get0 slhV_len hd3 (pa + (far ((((2 ^ K) : Nat) : Int)) (((r : Nat) : Int)))) (by first | omega | (simp only [List.length_set, List.length_take, List.length_drop]; done) | (simp only [List.length_set, List.length_take, List.length_drop]; omega)) rfl))) rfl) (.p (.t (.t .h)) .nil) ?_
        refine anyS_take (i := 10) rfl (by kernel_rfl) (by kernel_rfl) (by kernel_rfl) (by kernel_rfl) (Yq.of (v := .bool sq) (y_move h3_26) rfl) (.p (.t (.t .h)) .nil) ?_
        refine anyS_all (rs := [11]) (by kernel_rfl) (by simp) ?_
        intro i hi; obtain rfl := List.mem_singleton.1 hi; clear hi
        refine opS_0 rfl rfl ?_
        refine e_call (f := 73) (args := #[.slice ((hd3.getD pa default).a) ((hd3.getD pa default).n) ((hd3.getD pa default).c), .slice ((hd3.getD (pa + (far ((((2 ^ K) : Nat) : Int)) (((r : Nat) : Int)))) default).a) ((hd3.getD (pa + (far ((((2 ^ K) : Nat) : Int)) (((r : Nat) : Int)))) default).n) ((hd3.getD (pa + (far ((((2 ^ K) : Nat) : Int)) (((r : Nat) : Int)))) default).c), .bool sq]) (X := Option Addr × Nat) (A := []) (M := [osl a_23 c_24 ((frsZ ((((2 ^ K) : Nat) : Int)) (((r : Nat) : Int))).length) 1 3 ((frsZ ((((2 ^ K) : Nat) : Int)) (((r : Nat) : Int))).flatMap intV), fam hd3 bs3, osl oa oc hd.length 1 69 (hd3.flatMap slhV)]) (V := fun x : Option Addr × Nat => .tuple #[.slice x.1 ((hd3.getD pa default).n) ((hd3.getD pa default).n), .slice (subA x.1 x.2 ((hd3.getD pa default).n) 4) ((mgd sq (bs3.getD pa []) (bs3.getD (pa + (far ((2 ^ K : Nat) : Int) ((r : Nat) : Int))) [])).length - ((hd3.getD pa default).n)) (x.2 - ((hd3.getD pa default).n))]) (A' := fun x => [slR recV 4 23 (mgd sq (bs3.getD pa []) (bs3.getD (pa + (far ((2 ^ K : Nat) : Int) ((r : Nat) : Int))) [])) x]) (C := fun x => (mgd sq (bs3.getD pa []) (bs3.getD (pa + (far ((2 ^ K : Nat) : Int) ((r : Nat) : Int))) [])).length ≤ x.2) Try.call73 (ev3 rfl rfl rfl) (.p .h (.p .h (.p .h .nil))) (fun w hs => split_c ((hd3.getD pa default).a) ((hd3.getD (pa + (far ((((2 ^ K) : Nat) : Int)) (((r : Nat) : Int)))) default).a) ((hd3.getD pa default).n) ((hd3.getD pa default).c) ((hd3.getD (pa + (far ((((2 ^ K) : Nat) : Int)) (((r : Nat) : Int)))) default).n) ((hd3.getD (pa + (far ((((2 ^ K) : Nat) : Int)) (((r : Nat) : Int)))) default).c) (bs3.getD pa []) (bs3.getD (pa + (far ((2 ^ K : Nat) : Int) ((r : Nat) : Int))) []) sq w ((binv_len hB (by omega)).trans (HN _ (by omega)).symm) ((binv_len hB (by omega)).trans (HN _ (by omega)).symm) ((fam_rd (.t .h) (by omega)) w hs) ((fam_rd (.t .h) (by omega)) w hs) (by omega) (by omega)) ?_
        rintro ⟨a_28, c_29⟩ hc30; replace hc30 : (mgd sq (bs3.getD pa []) (bs3.getD (pa + (far ((2 ^ K : Nat) : Int) ((r : Nat) : Int))) [])).length ≤ c_29 := hc30
        have hlhc30 : (mgd sq (bs3.getD pa []) (bs3.getD (pa + (far ((2 ^ K : Nat) : Int) ((r : Nat) : Int))) [])).length = (bs3.getD pa []).length + (bs3.getD (pa + (far ((2 ^ K : Nat) : Int) ((r : Nat) : Int))) []).length := mgd_len _ _ _
        try simp only [List.length_cons, List.length_nil] at hlhc30
        refine ⟨.inr (.p (.t (.t (.t .h))) .nil), ?_⟩
        refine anyS_take (i := 12) rfl (by kernel_rfl) (by kernel_rfl) (by kernel_rfl) (by kernel_rfl) (Yq.of (v := .tuple #[.slice a_28 ((hd3.getD pa default).n) ((hd3.getD pa default).n), .slice (subA a_28 c_29 ((hd3.getD pa default).n) 4) ((mgd sq (bs3.getD pa []) (bs3.getD (pa + (far ((2 ^ K : Nat) : Int) ((r : Nat) : Int))) [])).length - ((hd3.getD pa default).n)) (c_29 - ((hd3.getD pa default).n))]) (y_move rfl) rfl) (.p (.t (.t (.t .h))) .nil) ?_
        refine anyS_take (i := 13) rfl (by kernel_rfl) (by kernel_rfl) (by kernel_rfl) (by kernel_rfl) (Yq.of (v := .slice a_28 ((hd3.getD pa default).n) ((hd3.getD pa default).n)) (y_extract (v := .slice a_28 ((hd3.getD pa default).n) ((hd3.getD pa default).n)) rfl rfl) rfl) (.p (.t (.t (.t .h))) .nil) ?_
        refine anyS_take (i := 14) rfl (by kernel_rfl) (by kernel_rfl) (by kernel_rfl) (by kernel_rfl) (Yq.of (v := .slice (subA a_28 c_29 ((hd3.getD pa default).n) 4) ((mgd sq (bs3.getD pa []) (bs3.getD (pa + (far ((2 ^ K : Nat) : Int) ((r : Nat) : Int))) [])).length - ((hd3.getD pa default).n)) (c_29 - ((hd3.getD pa default).n))) (y_extract (v := .slice (subA a_28 c_29 ((hd3.getD pa default).n) 4) ((mgd sq (bs3.getD pa []) (bs3.getD (pa + (far ((2 ^ K : Nat) : Int) ((r : Nat) : Int))) [])).length - ((hd3.getD pa default).n)) (c_29 - ((hd3.getD pa default).n))) rfl rfl) rfl) (.p (.t (.t (.t .h))) .nil) ?_
        refine anyS_take (i := 15) rfl (by kernel_rfl) (by kernel_rfl) (by kernel_rfl) (by kernel_rfl) (Yq.of (v := .slice a_28 ((hd3.getD pa default).n) ((hd3.getD pa default).n)) (y_assign rfl) rfl) (.p (.t (.t (.t .h))) .nil) ?_
        refine anyS_take (i := 16) rfl (by kernel_rfl) (by kernel_rfl) (by kernel_rfl) (by kernel_rfl) (Yq.of (v := .slice (subA a_28 c_29 ((hd3.getD pa default).n) 4) ((mgd sq (bs3.getD pa []) (bs3.getD (pa + (far ((2 ^ K : Nat) : Int) ((r : Nat) : Int))) [])).length - ((hd3.getD pa default).n)) (c_29 - ((hd3.getD pa default).n))) (y_assign rfl) rfl) (.p (.t (.t (.t .h))) .nil) ?_
        refine anyS_done (by kernel_rfl) ?_
        refine thenS_n ?_
        refine wpS_seq ?_
        refine wpS_seq ?_
        refine wpS_region ?_
        refine s_y (v := .slice a_28 ((hd3.getD pa default).n) ((hd3.getD pa default).n)) (y_move rfl) rfl ?_
        refine s_y (v := .int .i64 ((((hd3.getD pa default).n : Nat) : Int))) (y_len (ty' := 0) (at_ := #[]) rfl Try.underlying69) rfl ?_
        refine s_y (v := .int .i64 (((z : Nat) : Int))) (y_move h2_26) rfl ?_
        refine s_y (v := .bool (decide (((hd3.getD pa default).n) ≠ z))) (y_neq (a := (((hd3.getD pa default).n : Nat) : Int)) (b := ((z : Nat) : Int)) (c := decide (((hd3.getD pa default).n) ≠ z)) rfl rfl (decide_eq_decide.2 (by omega))) rfl ?_
        refine s_y (v := .bool (decide (((hd3.getD pa default).n) ≠ z))) (y_move rfl) rfl ?_
        refine s_gy (y_move rfl) rfl rfl rfl rfl (b' := decide (((hd3.getD pa default).n) ≠ z)) rfl (decide_eq_false (by omega)) ?_
        refine s_gy (y_len (ty' := 0) (at_ := #[]) rfl Try.underlying69) rfl rfl rfl rfl (b' := decide (((hd3.getD pa default).n) ≠ z)) rfl (decide_eq_false (by omega)) ?_
        refine s_gy (y_move h2_26) rfl rfl rfl rfl (b' := decide (((hd3.getD pa default).n) ≠ z)) rfl (decide_eq_false (by omega)) ?_
        refine s_gy (y_neq (a := (((mgd sq (bs3.getD pa []) (bs3.getD (pa + (far ((2 ^ K : Nat) : Int) ((r : Nat) : Int))) [])).length - ((hd3.getD pa default).n) : Nat) : Int)) (b := ((z : Nat) : Int)) (c := decide (((mgd sq (bs3.getD pa []) (bs3.getD (pa + (far ((2 ^ K : Nat) : Int) ((r : Nat) : Int))) [])).length - ((hd3.getD pa default).n)) ≠ z)) rfl rfl (decide_eq_decide.2 (by omega))) rfl rfl rfl rfl (b' := decide (((hd3.getD pa default).n) ≠ z)) rfl (decide_eq_false (by omega)) ?_
        refine s_y (v := .bool (decide (((mgd sq (bs3.getD pa []) (bs3.getD (pa + (far ((2 ^ K : Nat) : Int) ((r : Nat) : Int))) [])).length - ((hd3.getD pa default).n)) ≠ z))) (y_pickF (b := decide (((hd3.getD pa default).n) ≠ z)) (v := .bool (decide (((mgd sq (bs3.getD pa []) (bs3.getD (pa + (far ((2 ^ K : Nat) : Int) ((r : Nat) : Int))) [])).length - ((hd3.getD pa default).n)) ≠ z))) rfl (decide_eq_false (by omega)) rfl) rfl ?_
        refine wpL_nil ?_
        refine thenS_n ?_
        refine wpS_cond_F (t := decide (((mgd sq (bs3.getD pa []) (bs3.getD (pa + (far ((2 ^ K : Nat) : Int) ((r : Nat) : Int))) [])).length - ((hd3.getD pa default).n)) ≠ z)) rfl (decide_eq_false (by omega)) ?_
        refine wpS_skip ?_
        refine thenS_n ?_
        refine wpS_seq ?_
        refine wpS_seq ?_
        refine wpS_region ?_
        refine s_y (v := .int .i64 ((((2 ^ K) : Nat) : Int))) (y_move h1_26) rfl ?_
        refine s_y (v := .int .i64 (((r : Nat) : Int))) (y_move h13_26) rfl ?_
        refine s_y (v := .int .i64 (((pa : Nat) : Int))) (y_move (Eq.trans rfl (congrArg (Value.int .i64) hfi.z))) rfl ?_
        refine s_y (v := .bool ((up ((((2 ^ K) : Nat) : Int)) (((r : Nat) : Int)) (((pa : Nat) : Int))))) (y_call (args := #[.int .i64 ((((2 ^ K) : Nat) : Int)), .int .i64 (((r : Nat) : Int)), .int .i64 (((pa : Nat) : Int))]) (v := .bool ((up ((((2 ^ K) : Nat) : Int)) (((r : Nat) : Int)) (((pa : Nat) : Int))))) Try.call60 (ev3 rfl rfl rfl) (fun w hs => rup_c ((((2 ^ K) : Nat) : Int)) (((r : Nat) : Int)) (((pa : Nat) : Int)) (by omega) (by omega) (by omega) (by omega) (by omega) (by omega) w)) rfl ?_
        refine s_y (v := .bool (!(up ((((2 ^ K) : Nat) : Int)) (((r : Nat) : Int)) (((pa : Nat) : Int))))) (y_not (b := (up ((((2 ^ K) : Nat) : Int)) (((r : Nat) : Int)) (((pa : Nat) : Int)))) rfl) rfl ?_
        refine wpL_nil ?_
        refine thenS_n ?_
        refine wpS_cond (t := !(up ((((2 ^ K) : Nat) : Int)) (((r : Nat) : Int)) (((pa : Nat) : Int)))) rfl (fun b32 => ?_) (fun b32 => ?_)
        · -- !(up ((((2 ^ K) : Nat) : Int)) (((r : Nat) : Int)) (((pa : Nat) : Int))) true
          have b33 : (up ((((2 ^ K) : Nat) : Int)) (((r : Nat) : Int)) (((pa : Nat) : Int))) = false := by simpa using b32
          refine wpS_region ?_
          refine s_y (v := .slice (subA a_28 c_29 ((hd3.getD pa default).n) 4) ((mgd sq (bs3.getD pa []) (bs3.getD (pa + (far ((2 ^ K : Nat) : Int) ((r : Nat) : Int))) [])).length - ((hd3.getD pa default).n)) (c_29 - ((hd3.getD pa default).n))) (y_move rfl) rfl ?_
          refine s_y (v := .slice a_28 ((hd3.getD pa default).n) ((hd3.getD pa default).n)) (y_move rfl) rfl ?_
          refine s_y (v := .slice (subA a_28 c_29 ((hd3.getD pa default).n) 4) ((mgd sq (bs3.getD pa []) (bs3.getD (pa + (far ((2 ^ K : Nat) : Int) ((r : Nat) : Int))) [])).length - ((hd3.getD pa default).n)) (c_29 - ((hd3.getD pa default).n))) (y_assign rfl) rfl ?_
          refine s_y (v := .slice a_28 ((hd3.getD pa default).n) ((hd3.getD pa default).n)) (y_assign rfl) rfl ?_
          refine wpL_nil ?_
          refine thenS_n ?_
          refine wpS_region ?_
          refine s_y (v := .slice oa hd.length oc) (y_move h9_26) rfl ?_
          refine s_y (v := .int .i64 (((pa : Nat) : Int))) (y_move (Eq.trans rfl (congrArg (Value.int .i64) hfi.z))) rfl ?_
          refine s_y (v := .slice oa hd.length oc) (y_move h9_26) rfl ?_
          refine s_y (v := .int .i64 (((pa : Nat) : Int))) (y_move (Eq.trans rfl (congrArg (Value.int .i64) hfi.z))) rfl ?_
          refine s_y (v := .int .i64 ((((far ((((2 ^ K) : Nat) : Int)) (((r : Nat) : Int))) : Nat) : Int))) (y_move h15_26) rfl ?_
          refine s_y (v := .int .i64 ((((pa + (far ((((2 ^ K) : Nat) : Int)) (((r : Nat) : Int)))) : Nat) : Int))) (y_add (a := ((pa : Nat) : Int)) (b := (((far ((((2 ^ K) : Nat) : Int)) (((r : Nat) : Int))) : Nat) : Int)) (c := (((pa + (far ((((2 ^ K) : Nat) : Int)) (((r : Nat) : Int)))) : Nat) : Int)) rfl rfl (wI (by omega) (by omega) (by omega))) rfl ?_
          refine s_y (v := .slice (subA a_28 c_29 ((hd3.getD pa default).n) 4) ((mgd sq (bs3.getD pa []) (bs3.getD (pa + (far ((2 ^ K : Nat) : Int) ((r : Nat) : Int))) [])).length - ((hd3.getD pa default).n)) (c_29 - ((hd3.getD pa default).n))) (y_move rfl) rfl ?_
          refine s_y (v := .slice a_28 ((hd3.getD pa default).n) ((hd3.getD pa default).n)) (y_move rfl) rfl ?_
          refine s_y (v := .pointer (some ⟨aB oa, aO oa + pa * 1, none⟩)) (y_idx (o := pa * 1) rfl rfl Try.underlying80 Try.sizeOf69 (oslR (.t (.t (.t .h)))) ((fl_len slhV_len _).trans (by first | omega | (simp only [List.length_set, List.length_take, List.length_drop]; done) | (simp only [List.length_set, List.length_take, List.length_drop]; omega))) (by decide) (by omega) (by omega) (by omega)) rfl ?_
          refine s_e0 ?_
          refine e_storeL (enc := slhV) (xs := hd3) (y := (SlH.mk (subA a_28 c_29 ((hd3.getD pa default).n) 4) ((mgd sq (bs3.getD pa []) (bs3.getD (pa + (far ((2 ^ K : Nat) : Int) ((r : Nat) : Int))) [])).length - ((hd3.getD pa default).n)) (c_29 - ((hd3.getD pa default).n)))) slhV_len slhV_one (by decide) rfl rfl rfl Try.sizeOf69 (.t (.t (.t .h))) (by (try simp only [List.length_set]); omega) ?_
          refine s_y (v := .pointer (some ⟨aB oa, aO oa + (pa + (far ((((2 ^ K) : Nat) : Int)) (((r : Nat) : Int)))) * 1, none⟩)) (y_idx (o := (pa + (far ((((2 ^ K) : Nat) : Int)) (((r : Nat) : Int)))) * 1) rfl rfl Try.underlying80 Try.sizeOf69 (oslR .h) ((fl_len slhV_len _).trans (by first | omega | (simp only [List.length_set, List.length_take, List.length_drop]; done) | (simp only [List.length_set, List.length_take, List.length_drop]; omega))) (by decide) (by omega) (by omega) (by omega)) rfl ?_
          refine s_e0 ?_
          refine OpE.ent (fam_dn (.t .h) (.t (.t .h)) (by omega) (by omega) (i := pa) (j := (pa + (far ((((2 ^ K) : Nat) : Int)) (((r : Nat) : Int))))) (z := (hd3.getD pa default).n) (z1 := (hd3.getD pa default).n) (z2 := (hd3.getD pa default).n) (z3 := (mgd sq (bs3.getD pa []) (bs3.getD (pa + (far ((2 ^ K : Nat) : Int) ((r : Nat) : Int))) [])).length - ((hd3.getD pa default).n)) (z4 := c_29 - ((hd3.getD pa default).n)) (by omega) (by omega)) ?_
          refine e_storeL (enc := slhV) (xs := (hd3.set pa (SlH.mk (subA a_28 c_29 ((hd3.getD pa default).n) 4) ((mgd sq (bs3.getD pa []) (bs3.getD (pa + (far ((2 ^ K : Nat) : Int) ((r : Nat) : Int))) [])).length - ((hd3.getD pa default).n)) (c_29 - ((hd3.getD pa default).n))))) (y := (SlH.mk a_28 ((hd3.getD pa default).n) ((hd3.getD pa default).n))) slhV_len slhV_one (by decide) rfl rfl rfl Try.sizeOf69 (.t .h) (by (try simp only [List.length_set]); omega) ?_
          refine wpL_nil ?_
          refine blockS_n ?_
          refine thenS_n ?_
          refine wpS_region ?_
          refine s_y (v := .int .i64 (((i3 : Nat) : Int))) (y_move h16_26) rfl ?_
          refine s_y (v := .int .i64 ((((i3 + 1) : Nat) : Int))) (y_add (a := ((i3 : Nat) : Int)) (b := 1) (c := (((i3 + 1) : Nat) : Int)) rfl rfl (wI (by omega) (by omega) (by omega))) rfl ?_
          refine s_y (v := .int .i64 ((((i3 + 1) : Nat) : Int))) (y_assign rfl) rfl ?_
          refine wpL_nil ?_
          refine thenS_n ?_
          exact ⟨_, by omega, ⟨(i3 + 1), ((hd3.set pa (SlH.mk (subA a_28 c_29 ((hd3.getD pa default).n) 4) ((mgd sq (bs3.getD pa []) (bs3.getD (pa + (far ((2 ^ K : Nat) : Int) ((r : Nat) : Int))) [])).length - ((hd3.getD pa default).n)) (c_29 - ((hd3.getD pa default).n)))).set (pa + (far ((((2 ^ K) : Nat) : Int)) (((r : Nat) : Int)))) (SlH.mk a_28 ((hd3.getD pa default).n) ((hd3.getD pa default).n))), ((bs3.set pa ((mgd sq (bs3.getD pa []) (bs3.getD (pa + (far ((2 ^ K : Nat) : Int) ((r : Nat) : Int))) [])).drop ((hd3.getD pa default).n))).set (pa + (far ((((2 ^ K) : Nat) : Int)) (((r : Nat) : Int)))) ((mgd sq (bs3.getD pa []) (bs3.getD (pa + (far ((2 ^ K : Nat) : Int) ((r : Nat) : Int))) [])).take ((hd3.getD pa default).n))), rfl, by omega, (by rw [List.length_set, List.length_set]; omega), (hn_set (by omega) (by omega) (by omega) HN (by first | exact hna | exact (show (mgd sq (bs3.getD pa []) (bs3.getD (pa + (far ((2 ^ K : Nat) : Int) ((r : Nat) : Int))) [])).length - (hd3.getD pa default).n = z by omega)) (by first | exact hna | exact (show (mgd sq (bs3.getD pa []) (bs3.getD (pa + (far ((2 ^ K : Nat) : Int) ((r : Nat) : Int))) [])).length - (hd3.getD pa default).n = z by omega))), (binv_eq (by first | (rw [hDD] at *; exact bst_up (by assumption) hzl3 hfi (by omega) (by assumption)) | (rw [hDD] at *; exact bst_dn (by assumption) hzl3 hfi (by omega) (by assumption))) (bst_inv (by assumption) hB hzl3 hfi)), (by first | (rw [hDD] at *; exact bst_up (by assumption) hzl3 hfi (by omega) (by assumption)) | (rw [hDD] at *; exact bst_dn (by assumption) hzl3 hfi (by omega) (by assumption))), rfl, h1_26, h2_26, h3_26, h9_26, h13_26, h14_26, h15_26, rfl, .p (.t (.t .h)) (.p (.t .h) (.p .h .nil))⟩⟩
        · -- !(up ((((2 ^ K) : Nat) : Int)) (((r : Nat) : Int)) (((pa : Nat) : Int))) false
          have b34 : (up ((((2 ^ K) : Nat) : Int)) (((r : Nat) : Int)) (((pa : Nat) : Int))) = true := by simpa using b32
          refine wpS_skip ?_
          refine thenS_n ?_
          refine wpS_region ?_
          refine s_y (v := .slice oa hd.length oc) (y_move h9_26) rfl ?_
          refine s_y (v := .int .i64 (((pa : Nat) : Int))) (y_move (Eq.trans rfl (congrArg (Value.int .i64) hfi.z))) rfl ?_
          refine s_y (v := .slice oa hd.length oc) (y_move h9_26) rfl ?_
          refine s_y (v := .int .i64 (((pa : Nat) : Int))) (y_move (Eq.trans rfl (congrArg (Value.int .i64) hfi.z))) rfl ?_
          refine s_y (v := .int .i64 ((((far ((((2 ^ K) : Nat) : Int)) (((r : Nat) : Int))) : Nat) : Int))) (y_move h15_26) rfl ?_
          refine s_y (v := .int .i64 ((((pa + (far ((((2 ^ K) : Nat) : Int)) (((r : Nat) : Int)))) : Nat) : Int))) (y_add (a := ((pa : Nat) : Int)) (b := (((far ((((2 ^ K) : Nat) : Int)) (((r : Nat) : Int))) : Nat) : Int)) (c := (((pa + (far ((((2 ^ K) : Nat) : Int)) (((r : Nat) : Int)))) : Nat) : Int)) rfl rfl (wI (by omega) (by omega) (by omega))) rfl ?_
          refine s_y (v := .slice a_28 ((hd3.getD pa default).n) ((hd3.getD pa default).n)) (y_move rfl) rfl ?_
          refine s_y (v := .slice (subA a_28 c_29 ((hd3.getD pa default).n) 4) ((mgd sq (bs3.getD pa []) (bs3.getD (pa + (far ((2 ^ K : Nat) : Int) ((r : Nat) : Int))) [])).length - ((hd3.getD pa default).n)) (c_29 - ((hd3.getD pa default).n))) (y_move rfl) rfl ?_
          refine s_y (v := .pointer (some ⟨aB oa, aO oa + pa * 1, none⟩)) (y_idx (o := pa * 1) rfl rfl Try.underlying80 Try.sizeOf69 (oslR (.t (.t (.t .h)))) ((fl_len slhV_len _).trans (by first | omega | (simp only [List.length_set, List.length_take, List.length_drop]; done) | (simp only [List.length_set, List.length_take, List.length_drop]; omega))) (by decide) (by omega) (by omega) (by omega)) rfl ?_
          refine s_e0 ?_
          refine e_storeL (enc := slhV) (xs := hd3) (y := (SlH.mk a_28 ((hd3.getD pa default).n) ((hd3.getD pa default).n))) slhV_len slhV_one (by decide) rfl rfl rfl Try.sizeOf69 (.t (.t (.t .h))) (by (try simp only [List.length_set]); omega) ?_
          refine s_y (v := .pointer (some ⟨aB oa, aO oa + (pa + (far ((((2 ^ K) : Nat) : Int)) (((r : Nat) : Int)))) * 1, none⟩)) (y_idx (o := (pa + (far ((((2 ^ K) : Nat) : Int)) (((r : Nat) : Int)))) * 1) rfl rfl Try.underlying80 Try.sizeOf69 (oslR .h) ((fl_len slhV_len _).trans (by first | omega | (simp only [List.length_set, List.length_take, List.length_drop]; done) | (simp only [List.length_set, List.length_take, List.length_drop]; omega))) (by decide) (by omega) (by omega) (by omega)) rfl ?_
          refine s_e0 ?_
          refine OpE.ent (fam_up (.t .h) (.t (.t .h)) (by omega) (by omega) (i := pa) (j := (pa + (far ((((2 ^ K) : Nat) : Int)) (((r : Nat) : Int))))) (z := (hd3.getD pa default).n) (z1 := (hd3.getD pa default).n) (z2 := (hd3.getD pa default).n) (z3 := (mgd sq (bs3.getD pa []) (bs3.getD (pa + (far ((2 ^ K : Nat) : Int) ((r : Nat) : Int))) [])).length - ((hd3.getD pa default).n)) (z4 := c_29 - ((hd3.getD pa default).n)) (by omega) (by omega)) ?_
          refine e_storeL (enc := slhV) (xs := (hd3.set pa (SlH.mk a_28 ((hd3.getD pa default).n) ((hd3.getD pa default).n)))) (y := (SlH.mk (subA a_28 c_29 ((hd3.getD pa default).n) 4) ((mgd sq (bs3.getD pa []) (bs3.getD (pa + (far ((2 ^ K : Nat) : Int) ((r : Nat) : Int))) [])).length - ((hd3.getD pa default).n)) (c_29 - ((hd3.getD pa default).n)))) slhV_len slhV_one (by decide) rfl rfl rfl Try.sizeOf69 (.t .h) (by (try simp only [List.length_set]); omega) ?_
          refine wpL_nil ?_
          refine blockS_n ?_
          refine thenS_n ?_
          refine wpS_region ?_
          refine s_y (v := .int .i64 (((i3 : Nat) : Int))) (y_move h16_26) rfl ?_
          refine s_y (v := .int .i64 ((((i3 + 1) : Nat) : Int))) (y_add (a := ((i3 : Nat) : Int)) (b := 1) (c := (((i3 + 1) : Nat) : Int)) rfl rfl (wI (by omega) (by omega) (by omega))) rfl ?_
          refine s_y (v := .int .i64 ((((i3 + 1) : Nat) : Int))) (y_assign rfl) rfl ?_
          refine wpL_nil ?_
          refine thenS_n ?_
          exact ⟨_, by omega, ⟨(i3 + 1), ((hd3.set pa (SlH.mk a_28 ((hd3.getD pa default).n) ((hd3.getD pa default).n))).set (pa + (far ((((2 ^ K) : Nat) : Int)) (((r : Nat) : Int)))) (SlH.mk (subA a_28 c_29 ((hd3.getD pa default).n) 4) ((mgd sq (bs3.getD pa []) (bs3.getD (pa + (far ((2 ^ K : Nat) : Int) ((r : Nat) : Int))) [])).length - ((hd3.getD pa default).n)) (c_29 - ((hd3.getD pa default).n)))), ((bs3.set pa ((mgd sq (bs3.getD pa []) (bs3.getD (pa + (far ((2 ^ K : Nat) : Int) ((r : Nat) : Int))) [])).take ((hd3.getD pa default).n))).set (pa + (far ((((2 ^ K) : Nat) : Int)) (((r : Nat) : Int)))) ((mgd sq (bs3.getD pa []) (bs3.getD (pa + (far ((2 ^ K : Nat) : Int) ((r : Nat) : Int))) [])).drop ((hd3.getD pa default).n))), rfl, by omega, (by rw [List.length_set, List.length_set]; omega), (hn_set (by omega) (by omega) (by omega) HN (by first | exact hna | exact (show (mgd sq (bs3.getD pa []) (bs3.getD (pa + (far ((2 ^ K : Nat) : Int) ((r : Nat) : Int))) [])).length - (hd3.getD pa default).n = z by omega)) (by first | exact hna | exact (show (mgd sq (bs3.getD pa []) (bs3.getD (pa + (far ((2 ^ K : Nat) : Int) ((r : Nat) : Int))) [])).length - (hd3.getD pa default).n = z by omega))), (binv_eq (by first | (rw [hDD] at *; exact bst_up (by assumption) hzl3 hfi (by omega) (by assumption)) | (rw [hDD] at *; exact bst_dn (by assumption) hzl3 hfi (by omega) (by assumption))) (bst_inv (by assumption) hB hzl3 hfi)), (by first | (rw [hDD] at *; exact bst_up (by assumption) hzl3 hfi (by omega) (by assumption)) | (rw [hDD] at *; exact bst_dn (by assumption) hzl3 hfi (by omega) (by assumption))), rfl, h1_26, h2_26, h3_26, h9_26, h13_26, h14_26, h15_26, rfl, .p (.t (.t .h)) (.p (.t .h) (.p .h .nil))⟩⟩
      · -- decide (i3 < ((frsZ ((((2 ^ K) : Nat) : Int)) (((r : Nat) : Int))).length)) false
        have p27 := of_decide_eq_false b27
        refine wpS_exit ?_
        refine thenS_x ?_
        refine thenS_x ?_
        refine blockS_h ?_
        refine blockS_n ?_
        refine thenS_n ?_
        refine wpS_region ?_
        refine s_y (v := .int .i64 (((r : Nat) : Int))) (y_move h13_26) rfl ?_
        refine s_y (v := .int .i64 ((((r + 1) : Nat) : Int))) (y_add (a := ((r : Nat) : Int)) (b := 1) (c := (((r + 1) : Nat) : Int)) rfl rfl (wI (by omega) (by omega) (by omega))) rfl ?_
        refine s_y (v := .int .i64 ((((r + 1) : Nat) : Int))) (y_assign rfl) rfl ?_
        refine wpL_nil ?_
        refine thenS_n ?_
        exact ⟨_, by omega, ⟨(r + 1), hd3, bs3, rfl, by omega, by omega, (by assumption), (by assumption), (by rw [(by assumption : bs3 = _), (by assumption : bs2 = _)]; exact bcmp_all (by omega) (by omega) (by rw [← frsZ_len]; omega)), rfl, h1_26, h2_26, h3_26, h9_26, rfl, .p (.t .h) (.p (.t .h) .nil)⟩⟩
    · -- decide (r < (rnd ((((2 ^ K) : Nat) : Int)))) false
      have p22 := of_decide_eq_false b22
      refine wpS_exit ?_
      refine thenS_x ?_
      refine thenS_x ?_
      refine blockS_h ?_
      refine thenS_n ?_
      refine wpS_seq ?_
      refine wpS_region ?_
      refine s_y (v := .slice none 0 0) (y_assign rfl) rfl ?_
      refine wpL_nil ?_
      refine thenS_n ?_
      refine wpS_seq ?_
      refine wpS_seq ?_
      refine wpS_region ?_
      refine s_y (v := .int .i64 0) (y_assign rfl) rfl ?_
      refine wpL_nil ?_
      refine thenS_n ?_
      refine wpS_block ?_
      refine wpS_nil0 4 23 ?_
      refine wpS_loop (fun mez ds σ L => ∃ i4 : Nat, ∃ al : List Rec, ∃ aa : Option Addr, ∃ ac : Nat, mez = 2 ^ K - i4 ∧ (i4 ≤ 2 ^ K) ∧ (al.length = i4 * z) ∧ (al = (bs2.take i4).flatten) ∧ ds = [] ∧ σ 1 = .int .i64 ((((2 ^ K) : Nat) : Int)) ∧ σ 2 = .int .i64 (((z : Nat) : Int)) ∧ σ 3 = .bool sq ∧ σ 9 = .slice oa hd.length oc ∧ σ 20 = .slice aa al.length ac ∧ σ 21 = .int .i64 (((i4 : Nat) : Int)) ∧ Ent L [osl aa ac al.length 4 23 (al.flatMap recV), fam hd2 bs2, osl oa oc hd.length 1 69 (hd2.flatMap slhV)]) (m0 := 2 ^ K - 0) ⟨0, [], none, 0, rfl, by omega, (by simp), rfl, rfl, h1_21, h2_21, h3_21, h9_21, rfl, rfl, .p .h (.p .h (.p .h .nil))⟩ ?_
      rintro mez ds σ L ⟨i4, al, aa, ac, hm_35, hf0_35, hf1_35, hf2_35, rfl, h1_35, h2_35, h3_35, h9_35, h20_35, h21_35, hE_35⟩
      refine wpS_ent hE_35 ?_; clear hE_35
      have hm1 := hmx i4 (by omega)
      have hm2 := hms i4
      refine wpS_seq ?_
      refine wpS_seq ?_
      refine wpS_region ?_
      refine s_y (v := .int .i64 (((i4 : Nat) : Int))) (y_move h21_35) rfl ?_
      refine s_y (v := .int .i64 ((((2 ^ K) : Nat) : Int))) (y_move h1_35) rfl ?_
      refine s_y (v := .bool (decide (i4 < (2 ^ K)))) (y_lss (a := ((i4 : Nat) : Int)) (b := (((2 ^ K) : Nat) : Int)) (c := decide (i4 < (2 ^ K))) rfl rfl (decide_eq_decide.2 (by omega))) rfl ?_
      refine wpL_nil ?_
      refine thenS_n ?_
      refine wpS_cond (t := decide (i4 < (2 ^ K))) rfl (fun b36 => ?_) (fun b36 => ?_)
      · -- decide (i4 < (2 ^ K)) true
        have p36 := of_decide_eq_true b36
        refine wpS_skip ?_
        refine thenS_n ?_
        refine wpS_seq ?_
        refine wpS_block ?_
        refine wpS_region ?_
        refine s_y (v := .slice aa al.length ac) (y_move h20_35) rfl ?_
        refine s_y (v := .slice oa hd.length oc) (y_move h9_35) rfl ?_
        refine s_y (v := .int .i64 (((i4 : Nat) : Int))) (y_move h21_35) rfl ?_
        refine s_y (v := .pointer (some ⟨aB oa, aO oa + i4 * 1, none⟩)) (y_idx (o := i4 * 1) rfl rfl Try.underlying80 Try.sizeOf69 (oslR (.t (.t .h))) ((fl_len slhV_len _).trans (by first | omega | (simp only [List.length_set, List.length_take, List.length_drop]; done) | (simp only [List.length_set, List.length_take, List.length_drop]; omega))) (by decide) (by omega) (by omega) (by omega)) rfl ?_
        refine s_y (v := .slice ((hd2.getD i4 default).a) ((hd2.getD i4 default).n) ((hd2.getD i4 default).c)) (y_load1 (v := .slice ((hd2.getD i4 default).a) ((hd2.getD i4 default).n) ((hd2.getD i4 default).c)) rfl Try.isAgg69 (rd1 (k := i4 * 1) (oslR (.t (.t .h))) (fl_get0 slhV_len hd2 i4 (by first | omega | (simp only [List.length_set, List.length_take, List.length_drop]; done) | (simp only [List.length_set, List.length_take, List.length_drop]; omega)) rfl))) rfl ?_
        refine s_e rfl ?_
        refine e_appendL (enc := recV) (xs := (al : List Rec)) (ns := ((bs2.getD i4 []) : List Rec)) (zs := (al ++ (bs2.getD i4 []))) (bytes := 32) recV_len recV_one Try.underlying69 (i := Try.t23) rfl rfl rfl rfl rfl (by decide) rfl rfl (by first | rfl | omega) ((HN _ (by omega)).trans (binv_len hB (by omega)).symm) .h (fam_rd (.t .h) (by omega)) (by first | rfl | simp) (by rw [List.length_append, binv_len hB (by omega)]; omega) (by rw [List.length_append, binv_len hB (by omega)]; omega) ?_
        intro a_37 c_38
        refine s_y (v := .slice a_37 ((al ++ (bs2.getD i4 [])).length) c_38) (y_assign rfl) rfl ?_
        refine wpL_nil ?_
        refine blockS_n ?_
        refine thenS_n ?_
        refine wpS_region ?_
        refine s_y (v := .int .i64 (((i4 : Nat) : Int))) (y_move h21_35) rfl ?_
        refine s_y (v := .int .i64 ((((i4 + 1) : Nat) : Int))) (y_add (a := ((i4 : Nat) : Int)) (b := 1) (c := (((i4 + 1) : Nat) : Int)) rfl rfl (wI (by omega) (by omega) (by omega))) rfl ?_
        refine s_y (v := .int .i64 ((((i4 + 1) : Nat) : Int))) (y_assign rfl) rfl ?_
        refine wpL_nil ?_
        refine thenS_n ?_
        exact ⟨_, by omega, ⟨(i4 + 1), (al ++ (bs2.getD i4 [])), a_37, c_38, rfl, by omega, (by rw [List.length_append, binv_len hB (by omega)]; omega), (flat_next (by assumption) (by omega)), rfl, h1_35, h2_35, h3_35, h9_35, rfl, rfl, .p .h (.p .h (.p .h .nil))⟩⟩
      · -- decide (i4 < (2 ^ K)) false
        have p36 := of_decide_eq_false b36
        refine wpS_exit ?_
        refine thenS_x ?_
        refine thenS_x ?_
        refine blockS_h ?_
        refine thenS_n ?_
        refine wpS_seq ?_
        refine wpS_region ?_
        refine s_y (v := .bool true) (y_call (args := #[]) (v := .bool true) Try.call72 ev0 (fun w hs => awake14_c w)) rfl ?_
        refine s_y (v := .bool true) (y_move rfl) rfl ?_
        refine s_gy (y_move h20_35) rfl rfl rfl rfl rfl rfl ?_
        refine s_gy (y_move h3_35) rfl rfl rfl rfl rfl rfl ?_
        refine s_gy (y_call (args := #[.slice aa al.length ac, .bool sq]) (v := .bool ((srtd sq al))) Try.call79 (ev2 rfl rfl) (fun w hs => sorted_c aa al.length ac al sq w rfl (oslR .h w hs) (by omega))) rfl rfl rfl rfl rfl rfl ?_
        refine s_y (v := .bool ((srtd sq al))) (y_pickT (v := .bool ((srtd sq al))) rfl rfl rfl) rfl ?_
        refine s_y (v := .bool ((srtd sq al))) (y_move rfl) rfl ?_
        refine s_gy (y_move h20_35) rfl rfl rfl rfl (b' := (srtd sq al)) rfl (srtd_of (by rw [(by assumption : al = _), List.take_of_length_le (by omega), (by assumption : bs2 = _)]; exact bnet_srt (by omega) (blk0_inv _ _ _ _) (by omega))) ?_
        refine s_gy (y_len (ty' := 0) (at_ := #[]) rfl Try.underlying69) rfl rfl rfl rfl (b' := (srtd sq al)) rfl (srtd_of (by rw [(by assumption : al = _), List.take_of_length_le (by omega), (by assumption : bs2 = _)]; exact bnet_srt (by omega) (blk0_inv _ _ _ _) (by omega))) ?_
        refine s_gy (y_move h1_35) rfl rfl rfl rfl (b' := (srtd sq al)) rfl (srtd_of (by rw [(by assumption : al = _), List.take_of_length_le (by omega), (by assumption : bs2 = _)]; exact bnet_srt (by omega) (blk0_inv _ _ _ _) (by omega))) ?_
        refine s_gy (y_move h2_35) rfl rfl rfl rfl (b' := (srtd sq al)) rfl (srtd_of (by rw [(by assumption : al = _), List.take_of_length_le (by omega), (by assumption : bs2 = _)]; exact bnet_srt (by omega) (blk0_inv _ _ _ _) (by omega))) ?_
        refine s_gy (y_mul (a := (((2 ^ K) : Nat) : Int)) (b := ((z : Nat) : Int)) (c := ((((2 ^ K) * z) : Nat) : Int)) rfl rfl (wI (Int.natCast_mul _ _).symm (by omega) (by omega))) rfl rfl rfl rfl (b' := (srtd sq al)) rfl (srtd_of (by rw [(by assumption : al = _), List.take_of_length_le (by omega), (by assumption : bs2 = _)]; exact bnet_srt (by omega) (blk0_inv _ _ _ _) (by omega))) ?_
        refine s_gy (y_eql (a := ((al.length : Nat) : Int)) (b := ((((2 ^ K) * z) : Nat) : Int)) (c := decide (al.length = ((2 ^ K) * z))) rfl rfl (decide_eq_decide.2 (by omega))) rfl rfl rfl rfl (b' := (srtd sq al)) rfl (srtd_of (by rw [(by assumption : al = _), List.take_of_length_le (by omega), (by assumption : bs2 = _)]; exact bnet_srt (by omega) (blk0_inv _ _ _ _) (by omega))) ?_
        refine s_y (v := .bool (decide (al.length = ((2 ^ K) * z)))) (y_pickT (b := (srtd sq al)) (v := .bool (decide (al.length = ((2 ^ K) * z)))) rfl (srtd_of (by rw [(by assumption : al = _), List.take_of_length_le (by omega), (by assumption : bs2 = _)]; exact bnet_srt (by omega) (blk0_inv _ _ _ _) (by omega))) rfl) rfl ?_
        refine s_y (v := .bool (decide (al.length = ((2 ^ K) * z)))) (y_assign rfl) rfl ?_
        refine wpL_nil ?_
        refine thenS_n ?_
        refine wpS_ret ?_
        refine fin1 (v := .bool (decide (al.length = ((2 ^ K) * z)))) (.inr rfl) (.nil) Try.results18 rfl ?_
        exact fun w' hs => ⟨congrArg (fun b => Ending.returned (Value.bool b)) (show (decide (al.length = ((2 ^ K) * z))) = true from (decide_eq_true (by rw [(by assumption : al.length = _), show i4 = 2 ^ K by omega]))), hs⟩

end Go.Proofs.Ytldkjjnjdjfipaa
