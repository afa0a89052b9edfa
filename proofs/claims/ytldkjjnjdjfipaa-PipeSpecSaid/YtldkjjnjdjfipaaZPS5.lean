/- RPspec: a part of it: what its walk and its plain law need. -/
import Derived.WalkKit
import Derived.WalkSpells
import Derived.WalkLawsBesides
import Derived.TacticsIn
import Derived.OrdersIn
import Derived.RangeFuncIn
import Derived.RangeFuncLeaves
import Derived.RangeFuncRecord
import Derived.KernelRfl
import Derived.Maps.AppendAt
import Derived.Laws.Cover3
import Derived.Laws.MakeOwn
import Derived.Test.YtldkjjnjdjfipaaRows
import Derived.ChangeKeysEq
import Derived.Test.YtldkjjnjdjfipaaZPS4
namespace Go.Proofs.Ytldkjjnjdjfipaa
open Go Go.RowKit
set_option linter.unusedVariables false
set_option linter.unusedSimpArgs false
set_option maxRecDepth 10000
set_option maxHeartbeats 1000000
theorem blocksJ_c {R m S : Nat} {W : Int} {nb K : Nat} (h : JP R m S W nb K) (w : World) : Pure Try.prog 135 #[.agg #[.int .i64 (((R : Nat) : Int)), .int .i64 (((m : Nat) : Int)), .int .i64 (((S : Nat) : Int)), .int .i64 (W)]] w (.tuple #[.int .i64 ((nb : Nat) : Int), .int .i64 ((2 ^ K : Nat) : Int)]) := by
  have h1 := blocks_c ⟨R, m, S, W⟩ w
  rw [h.b, h.s] at h1
  exact h1
theorem mappedA_c (a1 a2 a3 : Option Addr) (n1 c1 n2 c2 n3 c3 : Nat) (l1 l2 l3 : List Opc) (R m S : Nat) (W : Int) (nb K : Nat) (ga : Option Addr) (gc : Nat) (li : List Pr) (w : World) (hj : JP R m S W nb K) (hn1 : l1.length = n1) (hr1 : Rds w a1 (l1.flatMap opcV)) (hb1 : n1 ≤ 1000000) (hn2 : l2.length = n2) (hr2 : Rds w a2 (l2.flatMap opcV)) (hb2 : n2 ≤ 1000000) (hn3 : l3.length = n3) (hr3 : Rds w a3 (l3.flatMap opcV)) (hb3 : n3 ≤ 1000000) (hck : (chkB ((m : Nat) : Int) l1 l2 l3) = true) (hl : li.length = R) (hr : Rds w ga (li.flatMap prV)) : Makes Try.prog 208 #[.agg #[.int .i64 ((m : Nat) : Int), .slice a1 n1 c1, .slice a2 n2 c2, .slice a3 n3 c3], .agg #[.int .i64 ((R : Nat) : Int), .int .i64 ((m : Nat) : Int), .int .i64 ((S : Nat) : Int), .int .i64 W], .slice ga R gc] w [] (X := (Option Addr × Nat) × List SlH) (fun x => .slice x.1.1 (2 ^ K) x.1.2) (fun x => [osl x.1.1 x.1.2 (2 ^ K) 1 69 (x.2.flatMap slhV), fam x.2 (mpD (chkB ((m : Nat) : Int) l1 l2 l3) ((m : Nat) : Int) l1 S m li nb (2 ^ K))]) (fun x => x.2.length = 2 ^ K ∧ ∀ k, k < 2 ^ K → (x.2.getD k default).n = S) := by
 refine calls_S (n := 40) (σ0 := (upd (upd (upd fr0 0 (.agg #[.int .i64 ((m : Nat) : Int), .slice a1 n1 c1, .slice a2 n2 c2, .slice a3 n3 c3])) 1 (.agg #[.int .i64 ((R : Nat) : Int), .int .i64 ((m : Nat) : Int), .int .i64 ((S : Nat) : Int), .int .i64 W])) 2 (.slice ga R gc))) (D := []) (A := []) Try.func208 rfl Try.ntmps208 rfl (a3_fr _ _ _) (SH.start w) ?_
 obtain ⟨hjok, hjb, hjs, hK5, ⟨hR1, hR2⟩, ⟨hm1, hm2⟩, ⟨hS1, hS2⟩, hnm, hrs, hrs2, ⟨hnb1, hnb2⟩⟩ := hj
 have hj : JP R m S W nb K := ⟨hjok, hjb, hjs, hK5, ⟨hR1, hR2⟩, ⟨hm1, hm2⟩, ⟨hS1, hS2⟩, hnm, hrs, hrs2, ⟨hnb1, hnb2⟩⟩
 have hp2 : 2 ^ K ≤ 32 := Nat.pow_le_pow_right (n := 2) (by decide) hK5
 have hp1 := Nat.two_pow_pos K
 refine wpS_seq ?_
 refine wpS_region ?_
 refine s_e rfl ?_
 refine e_box (v := .agg #[.int .i64 ((m : Nat) : Int), .slice a1 n1 c1, .slice a2 n2 c2, .slice a3 n3 c3]) (l := [.int .i64 ((m : Nat) : Int), .slice a1 n1 c1, .slice a2 n2 c2, .slice a3 n3 c3]) rfl rfl ?_
 intro b_1
 refine s_e rfl ?_
 refine e_box (v := .agg #[.int .i64 ((R : Nat) : Int), .int .i64 ((m : Nat) : Int), .int .i64 ((S : Nat) : Int), .int .i64 W]) (l := [.int .i64 ((R : Nat) : Int), .int .i64 ((m : Nat) : Int), .int .i64 ((S : Nat) : Int), .int .i64 W]) rfl rfl ?_
 intro b_2
 refine s_y (v := .slice none 0 0) (y_assign rfl) rfl ?_
 refine wpL_nil ?_
 refine thenS_n ?_
 refine wpS_seq ?_
 refine wpS_region ?_
 refine s_y (v := .agg #[.int .i64 ((R : Nat) : Int), .int .i64 ((m : Nat) : Int), .int .i64 ((S : Nat) : Int), .int .i64 W]) (y_loadN rfl Try.isAgg53 Try.sizeOf53 (ownN .h rfl)) rfl ?_
 refine s_y (v := .tuple #[.int .i64 ((nb : Nat) : Int), .int .i64 (((2 ^ K) : Nat) : Int)]) (y_call (args := #[.agg #[.int .i64 ((R : Nat) : Int), .int .i64 ((m : Nat) : Int), .int .i64 ((S : Nat) : Int), .int .i64 W]]) Try.call135 (ev1 rfl) (fun w hs => blocksJ_c hj w)) rfl ?_
 refine s_y (v := .tuple #[.int .i64 ((nb : Nat) : Int), .int .i64 (((2 ^ K) : Nat) : Int)]) (y_move rfl) rfl ?_
 refine s_y (v := .int .i64 ((nb : Nat) : Int)) (y_extract rfl rfl) rfl ?_
 refine s_y (v := .int .i64 (((2 ^ K) : Nat) : Int)) (y_extract rfl rfl) rfl ?_
 refine s_y (v := .int .i64 ((nb : Nat) : Int)) (y_assign rfl) rfl ?_
 refine s_y (v := .int .i64 (((2 ^ K) : Nat) : Int)) (y_assign rfl) rfl ?_
 refine wpL_nil ?_
 refine thenS_n ?_
 refine wpS_seq ?_
 refine wpS_region ?_
 refine s_y (v := .slice none 0 0) (y_assign rfl) rfl ?_
 refine wpL_nil ?_
 refine thenS_n ?_
 refine wpS_seq ?_
 refine wpS_seq ?_
 refine wpS_region ?_
 refine s_y (v := .int .i64 ((nb : Nat) : Int)) (y_move rfl) rfl ?_
 refine s_y (v := .int .i64 0) (y_move rfl) rfl ?_
 refine wpL_nil ?_
 refine thenS_n ?_
 refine wpS_block ?_
 refine wpS_nil0 1 69 ?_
 refine wpS_sh fam_nil ?_
 refine wpS_loop (fun mez ds σ L => ∃ a : Nat, ∃ hd : List SlH, ∃ bs : List (List Rec), ∃ oa : Option Addr, ∃ oc : Nat, mez = nb - a ∧ (a ≤ nb) ∧ (hd.length = a * m) ∧ (bs.length = a * m) ∧ (∀ i, i < a * m → (hd.getD i default).n = S) ∧ (bs = (mpA (chkB ((m : Nat) : Int) l1 l2 l3) ((m : Nat) : Int) l1 S m li a)) ∧ ds = [] ∧ σ 2 = .slice ga R gc ∧ σ 3 = .pointer (some ⟨b_1, 0, none⟩) ∧ σ 4 = .pointer (some ⟨b_2, 0, none⟩) ∧ σ 8 = .int .i64 (((2 ^ K) : Nat) : Int) ∧ σ 9 = .slice oa hd.length oc ∧ σ 16 = .int .i64 ((nb : Nat) : Int) ∧ σ 17 = .int .i64 ((a : Nat) : Int) ∧ Ent L [fam hd bs, osl oa oc hd.length 1 69 (hd.flatMap slhV), cel b_2 53 [.int .i64 ((R : Nat) : Int), .int .i64 ((m : Nat) : Int), .int .i64 ((S : Nat) : Int), .int .i64 W], cel b_1 84 [.int .i64 ((m : Nat) : Int), .slice a1 n1 c1, .slice a2 n2 c2, .slice a3 n3 c3]]) (m0 := nb - 0) ⟨0, [], [], none, 0, rfl, by omega, (by rw [Nat.zero_mul]; rfl), (by rw [Nat.zero_mul]; rfl), (fun i hi => by rw [Nat.zero_mul] at hi; omega), rfl, rfl, rfl, rfl, rfl, rfl, rfl, rfl, rfl, .p .h (.p .h (.p .h (.p .h .nil)))⟩ ?_
 rintro mez ds σ L ⟨a, hd, bs, oa, oc, hm_3, hf0_3, hf1_3, hf2_3, hf3_3, hf4_3, rfl, h2_3, h3_3, h4_3, h8_3, h9_3, h16_3, h17_3, hE_3⟩
 refine wpS_ent hE_3 ?_; clear hE_3
 have ham : a * m ≤ nb * m := Nat.mul_le_mul_right m (by omega)
 have hak : (a + 1) * m = a * m + m := Nat.succ_mul a m
 have hil : (inp S li a).length = S := inp_len S li a
 refine wpS_seq ?_
 refine wpS_region ?_
 refine s_y (v := .bool (decide (a < nb))) (y_lss (a := ((a : Nat) : Int)) (b := ((nb : Nat) : Int)) (c := decide (a < nb)) h17_3 h16_3 (decide_eq_decide.2 (by omega))) rfl ?_
 refine wpL_nil ?_
 refine thenS_n ?_
 refine wpS_seq ?_
 refine wpS_cond (t := decide (a < nb)) rfl (fun b4 => ?_) (fun b4 => ?_)
 ·
  have p4 := of_decide_eq_true b4
  refine wpS_skip ?_
  refine thenS_n ?_
  refine wpS_seq ?_
  refine wpS_block ?_
  refine wpS_seq ?_
  refine wpS_region ?_
  refine s_y (v := .int .i64 ((a : Nat) : Int)) (y_move h17_3) rfl ?_
  refine s_y (v := .int .i64 ((a : Nat) : Int)) (y_assign rfl) rfl ?_
  refine wpL_nil ?_
  refine thenS_n ?_
  refine wpS_anyL [cel b_2 53 [.int .i64 ((R : Nat) : Int), .int .i64 ((m : Nat) : Int), .int .i64 ((S : Nat) : Int), .int .i64 W], cel b_1 84 [.int .i64 ((m : Nat) : Int), .slice a1 n1 c1, .slice a2 n2 c2, .slice a3 n3 c3]] [] (by kernel_rfl) ?_
  refine anyS_take (i := 0) rfl (by kernel_rfl) (by kernel_rfl) (by kernel_rfl) (by kernel_rfl) (Yq.of (v := .slice oa hd.length oc) (y_move h9_3) rfl) (.p (.t (.t .h)) (.p (.t (.t .h)) .nil)) ?_
  refine anyS_take (i := 1) rfl (by kernel_rfl) (by kernel_rfl) (by kernel_rfl) (by kernel_rfl) (Yq.of (v := .agg #[.int .i64 ((m : Nat) : Int), .slice a1 n1 c1, .slice a2 n2 c2, .slice a3 n3 c3]) (y_loadN h3_3 Try.isAgg84 Try.sizeOf84 (ownN (.t .h) rfl)) rfl) (.p (.t (.t .h)) (.p (.t (.t .h)) .nil)) ?_
  refine anyS_take (i := 2) rfl (by kernel_rfl) (by kernel_rfl) (by kernel_rfl) (by kernel_rfl) (Yq.of (v := .agg #[.int .i64 ((R : Nat) : Int), .int .i64 ((m : Nat) : Int), .int .i64 ((S : Nat) : Int), .int .i64 W]) (y_loadN h4_3 Try.isAgg53 Try.sizeOf53 (ownN .h rfl)) rfl) (.p (.t (.t .h)) (.p (.t (.t .h)) .nil)) ?_
  refine anyS_take (i := 3) rfl (by kernel_rfl) (by kernel_rfl) (by kernel_rfl) (by kernel_rfl) (Yq.of (v := .agg #[.int .i64 ((R : Nat) : Int), .int .i64 ((m : Nat) : Int), .int .i64 ((S : Nat) : Int), .int .i64 W]) (y_loadN h4_3 Try.isAgg53 Try.sizeOf53 (ownN .h rfl)) rfl) (.p (.t (.t .h)) (.p (.t (.t .h)) .nil)) ?_
  refine anyS_take (i := 4) rfl (by kernel_rfl) (by kernel_rfl) (by kernel_rfl) (by kernel_rfl) (Yq.of (v := .slice ga R gc) (y_move h2_3) rfl) (.p (.t (.t .h)) (.p (.t (.t .h)) .nil)) ?_
  refine anyS_take (i := 5) rfl (by kernel_rfl) (by kernel_rfl) (by kernel_rfl) (by kernel_rfl) (Yq.of (v := .int .i64 ((a : Nat) : Int)) (y_move rfl) rfl) (.p (.t (.t .h)) (.p (.t (.t .h)) .nil)) ?_
  refine anyS_all (rs := [6]) (by kernel_rfl) (by simp) ?_
  intro i hi; obtain rfl := List.mem_singleton.1 hi; clear hi
  refine opS_0 rfl rfl ?_
  refine e_call (f := 237) (args := #[.agg #[.int .i64 ((R : Nat) : Int), .int .i64 ((m : Nat) : Int), .int .i64 ((S : Nat) : Int), .int .i64 W], .slice ga R gc, .int .i64 ((a : Nat) : Int)]) (X := Option Addr × Nat) (A := []) (M := [fam hd bs, osl oa oc hd.length 1 69 (hd.flatMap slhV), cel b_2 53 [.int .i64 ((R : Nat) : Int), .int .i64 ((m : Nat) : Int), .int .i64 ((S : Nat) : Int), .int .i64 W], cel b_1 84 [.int .i64 ((m : Nat) : Int), .slice a1 n1 c1, .slice a2 n2 c2, .slice a3 n3 c3]]) (V := slV (inp S li a)) (A' := fun x => [slR recV 4 23 (inp S li a) x]) (C := fun x => (inp S li a).length ≤ x.2) Try.call237 (ev3 rfl rfl rfl) (.p .h (.p .h (.p .h (.p .h .nil)))) (fun w hs => (input_c R m S W ga R gc li a w hl ((oldR hr) w hs) (by omega) (by omega) (by omega)).cap) ?_
  rintro ⟨a_5, c_6⟩ hc7; replace hc7 : (inp S li a).length ≤ c_6 := hc7
  refine ⟨.inr (.p (.t (.t (.t .h))) (.p (.t (.t (.t .h))) .nil)), ?_⟩
  refine anyS_all (rs := [7]) (by kernel_rfl) (by simp) ?_
  intro i hi; obtain rfl := List.mem_singleton.1 hi; clear hi
  refine opS_0 rfl rfl ?_
  refine e_call (f := 236) (args := #[.agg #[.int .i64 ((m : Nat) : Int), .slice a1 n1 c1, .slice a2 n2 c2, .slice a3 n3 c3], .agg #[.int .i64 ((R : Nat) : Int), .int .i64 ((m : Nat) : Int), .int .i64 ((S : Nat) : Int), .int .i64 W], .slice a_5 ((inp S li a).length) c_6]) (X := (Option Addr × Nat) × List SlH) (A := []) (M := [osl a_5 c_6 ((inp S li a).length) 4 23 ((inp S li a).flatMap recV), fam hd bs, osl oa oc hd.length 1 69 (hd.flatMap slhV), cel b_2 53 [.int .i64 ((R : Nat) : Int), .int .i64 ((m : Nat) : Int), .int .i64 ((S : Nat) : Int), .int .i64 W], cel b_1 84 [.int .i64 ((m : Nat) : Int), .slice a1 n1 c1, .slice a2 n2 c2, .slice a3 n3 c3]]) (V := fun x => .slice x.1.1 m x.1.2) (A' := fun x => [osl x.1.1 x.1.2 m 1 69 (x.2.flatMap slhV), fam x.2 (mpB (chkB ((m : Nat) : Int) l1 l2 l3) ((m : Nat) : Int) l1 S m (inp S li a))]) (C := fun x => x.2.length = m ∧ ∀ k, k < m → (x.2.getD k default).n = S) Try.call236 (ev3 rfl rfl rfl) (.p .h (.p .h (.p .h (.p .h (.p .h .nil))))) (fun w hs => by rw [hil]; exact mapped_c a1 a2 a3 n1 c1 n2 c2 n3 c3 l1 l2 l3 R m S W a_5 c_6 (inp S li a)  w hn1 ((oldR hr1) w hs) (by omega) hn2 ((oldR hr2) w hs) (by omega) hn3 ((oldR hr3) w hs) (by omega) hck hil (oslR .h w hs) (by omega) (by omega)) ?_
  rintro ⟨⟨a_9, c_10⟩, h_11⟩ ⟨hH12l, hH12n⟩
  replace hH12l : h_11.length = m := hH12l
  replace hH12n : ∀ k, k < m → (h_11.getD k default).n = S := hH12n
  refine ⟨.inr (.p (.t (.t (.t (.t (.t .h))))) (.p (.t (.t (.t (.t (.t .h))))) .nil)), ?_⟩
  refine anyS_all (rs := [8]) (by kernel_rfl) (by simp) ?_
  intro i hi; obtain rfl := List.mem_singleton.1 hi; clear hi
  refine opS_0 rfl rfl ?_
  refine OpE.ent (fam_app (.t .h) (.t (.t .h)) (by omega)) ?_
  refine e_appendL (enc := slhV) (xs := (hd : List SlH)) (ns := (h_11 : List SlH)) (zs := (hd ++ h_11)) (bytes := 24) slhV_len slhV_one Try.underlying80 (i := Try.t69) rfl rfl rfl rfl rfl (by decide) rfl rfl (by first | rfl | omega) (by omega) (.t (.t (.t .h))) (oslR (.t .h)) (by first | rfl | simp) (by rw [List.length_append]; omega) (by rw [List.length_append]; omega) ?_
  intro a_13 c_14
  refine ⟨.inr (.p (.t (.t (.t (.t .h)))) (.p (.t (.t (.t (.t .h)))) .nil)), ?_⟩
  refine anyS_take (i := 9) rfl (by kernel_rfl) (by kernel_rfl) (by kernel_rfl) (by kernel_rfl) (Yq.of (v := .slice a_13 ((hd ++ h_11).length) c_14) (y_assign rfl) rfl) (.p (.t (.t (.t (.t .h)))) (.p (.t (.t (.t (.t .h)))) .nil)) ?_
  refine anyS_done (by kernel_rfl) ?_
  refine blockS_n ?_
  refine thenS_n ?_
  refine wpS_region ?_
  refine s_y (v := .int .i64 (((a + 1) : Nat) : Int)) (y_add (a := ((a : Nat) : Int)) (b := 1) h17_3 rfl (wI (by omega) (by omega) (by omega))) rfl ?_
  refine s_y (v := .int .i64 (((a + 1) : Nat) : Int)) (y_move rfl) rfl ?_
  refine wpL_nil ?_
  refine thenS_n ?_
  exact ⟨_, by omega, ⟨(a + 1), (hd ++ h_11), (bs ++ (mpB (chkB ((m : Nat) : Int) l1 l2 l3) ((m : Nat) : Int) l1 S m (inp S li a))), a_13, c_14, rfl, by omega, (by rw [List.length_append]; omega), (by rw [List.length_append, mpB_len]; omega), (by rw [hak]; exact hn_app2 (by omega) (by assumption) (by assumption)), (by rw [(by assumption : bs = _)]; exact mpA_next a), rfl, h2_3, h3_3, h4_3, h8_3, rfl, h16_3, rfl, .p (.t .h) (.p .h (.p (.t (.t .h)) (.p (.t (.t .h)) .nil)))⟩⟩
 ·
  have p4 := of_decide_eq_false b4
  refine wpS_exit ?_
  refine thenS_x ?_
  refine thenS_x ?_
  refine blockS_h ?_
  refine thenS_n ?_
  refine wpS_seq ?_
  refine wpS_block ?_
  refine wpS_loop (fun mez ds σ L => ∃ q : Nat, ∃ hd2 : List SlH, ∃ bs2 : List (List Rec), ∃ oa2 : Option Addr, ∃ oc2 : Nat, mez = 2 ^ K - q ∧ (nb * m + q ≤ 2 ^ K) ∧ (hd2.length = nb * m + q) ∧ (bs2.length = nb * m + q) ∧ (∀ i, i < nb * m + q → (hd2.getD i default).n = S) ∧ (bs2 = (mpA (chkB ((m : Nat) : Int) l1 l2 l3) ((m : Nat) : Int) l1 S m li nb) ++ List.replicate q (dds S)) ∧ ds = [] ∧ σ 4 = .pointer (some ⟨b_2, 0, none⟩) ∧ σ 8 = .int .i64 (((2 ^ K) : Nat) : Int) ∧ σ 9 = .slice oa2 hd2.length oc2 ∧ Ent L [fam hd2 bs2, osl oa2 oc2 hd2.length 1 69 (hd2.flatMap slhV), cel b_2 53 [.int .i64 ((R : Nat) : Int), .int .i64 ((m : Nat) : Int), .int .i64 ((S : Nat) : Int), .int .i64 W], cel b_1 84 [.int .i64 ((m : Nat) : Int), .slice a1 n1 c1, .slice a2 n2 c2, .slice a3 n3 c3]]) (m0 := 2 ^ K - 0) ⟨0, hd, bs, oa, oc, rfl, by omega, (by rw [show nb = a by omega]; omega), (by rw [show nb = a by omega]; omega), (by rw [show nb = a by omega]; assumption), (by rw [show nb = a by omega, (by assumption : bs = _)]; simp), rfl, h4_3, h8_3, h9_3, .p .h (.p .h (.p .h (.p .h .nil)))⟩ ?_
  rintro mez ds σ L ⟨q, hd2, bs2, oa2, oc2, hm_15, hf0_15, hf1_15, hf2_15, hf3_15, hf4_15, rfl, h4_15, h8_15, h9_15, hE_15⟩
  refine wpS_ent hE_15 ?_; clear hE_15
  have hdl : (dds S).length = S := List.length_replicate
  refine wpS_seq ?_
  refine wpS_seq ?_
  refine wpS_region ?_
  refine s_y (v := .slice oa2 hd2.length oc2) (y_move h9_15) rfl ?_
  refine s_y (v := .int .i64 ((hd2.length : Nat) : Int)) (y_len (ty' := 0) (at_ := #[]) rfl Try.underlying80) rfl ?_
  refine s_y (v := .int .i64 (((2 ^ K) : Nat) : Int)) (y_move h8_15) rfl ?_
  refine s_y (v := .bool (decide (hd2.length < (2 ^ K)))) (y_lss (a := ((hd2.length : Nat) : Int)) (b := (((2 ^ K) : Nat) : Int)) (c := decide (hd2.length < (2 ^ K))) rfl rfl (decide_eq_decide.2 (by omega))) rfl ?_
  refine wpL_nil ?_
  refine thenS_n ?_
  refine wpS_cond (t := decide (hd2.length < (2 ^ K))) rfl (fun b16 => ?_) (fun b16 => ?_)
  ·
   have p16 := of_decide_eq_true b16
   refine wpS_skip ?_
   refine thenS_n ?_
   refine wpS_block ?_
   refine wpS_region ?_
   refine s_y (v := .slice oa2 hd2.length oc2) (y_move h9_15) rfl ?_
   refine s_y (v := .agg #[.int .i64 ((R : Nat) : Int), .int .i64 ((m : Nat) : Int), .int .i64 ((S : Nat) : Int), .int .i64 W]) (y_loadN h4_15 Try.isAgg53 Try.sizeOf53 (ownN (.t (.t .h)) rfl)) rfl ?_
   refine s_e rfl ?_
   refine e_call (f := 238) (args := #[.agg #[.int .i64 ((R : Nat) : Int), .int .i64 ((m : Nat) : Int), .int .i64 ((S : Nat) : Int), .int .i64 W]]) (X := Option Addr × Nat) (A := []) (M := [fam hd2 bs2, osl oa2 oc2 hd2.length 1 69 (hd2.flatMap slhV), cel b_2 53 [.int .i64 ((R : Nat) : Int), .int .i64 ((m : Nat) : Int), .int .i64 ((S : Nat) : Int), .int .i64 W], cel b_1 84 [.int .i64 ((m : Nat) : Int), .slice a1 n1 c1, .slice a2 n2 c2, .slice a3 n3 c3]]) (V := slV (dds S)) (A' := fun x => [slR recV 4 23 (dds S) x]) (C := fun x => (dds S).length ≤ x.2) Try.call238 (ev1 rfl) (.p .h (.p .h (.p .h (.p .h .nil)))) (fun w hs => (empty_c R m S W w (by omega) (by omega)).cap) ?_
   rintro ⟨a_17, c_18⟩ hc19; replace hc19 : (dds S).length ≤ c_18 := hc19
   refine s_e rfl ?_
   refine e_bsliceL (e := 69) (m := [(0, .slice a_17 ((dds S).length) c_18)]) (l := [.slice a_17 ((dds S).length) c_18]) (evc rfl evn) (fun w => by kernel_rfl) ?_
   intro b_21
   refine s_e rfl ?_
   refine OpE.ent (fam_push (SlH.mk a_17 ((dds S).length) c_18) (.t .h) (.t .h) (by omega)) ?_
   refine e_appendL (enc := slhV) (xs := (hd2 : List SlH)) (ns := ([(SlH.mk a_17 ((dds S).length) c_18)] : List SlH)) (zs := (hd2 ++ [(SlH.mk a_17 ((dds S).length) c_18)])) (bytes := 24) slhV_len slhV_one Try.underlying80 (i := Try.t69) rfl rfl rfl rfl rfl (by decide) rfl rfl (by first | rfl | omega) (by first | rfl | omega) (.t (.t .h)) (fun w hs => celR (.t .h) w hs) (by first | rfl | simp) (by rw [List.length_append, List.length_singleton]; omega) (by rw [List.length_append, List.length_singleton]; omega) ?_
   intro a_22 c_23
   refine s_y (v := .slice a_22 ((hd2 ++ [(SlH.mk a_17 ((dds S).length) c_18)]).length) c_23) (y_assign rfl) rfl ?_
   refine wpL_nil ?_
   refine blockS_n ?_
   refine thenS_n ?_
   exact ⟨_, by omega, ⟨(q + 1), (hd2 ++ [(SlH.mk a_17 ((dds S).length) c_18)]), (bs2 ++ [(dds S)]), a_22, c_23, rfl, by omega, (by rw [List.length_append, List.length_singleton]; omega), (by rw [List.length_append, List.length_singleton]; omega), (hn_app (by omega) (by assumption) (by show (dds S).length = S; exact hdl)), (by rw [(by assumption : bs2 = _), List.append_assoc, ← List.replicate_succ']), rfl, h4_15, h8_15, rfl, .p (.t .h) (.p .h (.p (.t .h) (.p (.t .h) .nil)))⟩⟩
  ·
   have p16 := of_decide_eq_false b16
   refine wpS_exit ?_
   refine thenS_x ?_
   refine thenS_x ?_
   refine blockS_h ?_
   refine thenS_n ?_
   refine wpS_seq ?_
   refine wpS_region ?_
   refine s_y (v := .slice oa2 hd2.length oc2) (y_move h9_15) rfl ?_
   refine s_y (v := .slice oa2 hd2.length oc2) (y_assign rfl) rfl ?_
   refine wpL_nil ?_
   refine thenS_n ?_
   refine wpS_ret ?_
   refine fin1 (M := [osl oa2 oc2 hd2.length 1 69 (hd2.flatMap slhV), fam hd2 bs2]) (v := .slice oa2 hd2.length oc2) (.inr rfl) (.p (.t .h) (.p .h .nil)) Try.results208 rfl ?_
   have e1 : hd2.length = 2 ^ K := by omega
   have e2 : bs2 = (mpD (chkB ((m : Nat) : Int) l1 l2 l3) ((m : Nat) : Int) l1 S m li nb (2 ^ K)) := by rw [(by assumption : bs2 = _)]; unfold mpD; rw [mpA_len, show q = 2 ^ K - nb * m by omega]
   have e3 : ∀ k, k < 2 ^ K → (hd2.getD k default).n = S := by have h := (by assumption : ∀ i, i < nb * m + q → (hd2.getD i default).n = S); rw [show nb * m + q = 2 ^ K by omega] at h; exact h
   exact fun w' hs => ⟨((oa2, oc2), hd2), by rw [e1], by rw [e1, e2] at hs; exact hs, e1, e3⟩
theorem round_cc (oa : Option Addr) (oc : Nat) (hd : List SlH) (bs : List (List Rec)) (K r z : Nat) (sq : Bool) (w : World) (hK : K ≤ 5) (hr : r < rnd ((2 ^ K : Nat) : Int)) (hl : hd.length = 2 ^ K) (hN : ∀ k, k < 2 ^ K → (hd.getD k default).n = z) (hB0 : BInv sq (2 ^ K) z bs) (hz : z ≤ 100) (hA : SH w (([osl oa oc (2 ^ K) 1 69 (hd.flatMap slhV), fam hd bs] : List Res).flatMap Res.fp) [osl oa oc (2 ^ K) 1 69 (hd.flatMap slhV), fam hd bs] w) : Calls Try.prog 209 #[.slice oa (2 ^ K) oc, .int .i64 ((r : Nat) : Int), .bool sq] w (fun e w' => ∃ x : List SlH, e = .returned (.tuple #[]) ∧ SH w (([osl oa oc (2 ^ K) 1 69 (hd.flatMap slhV), fam hd bs] : List Res).flatMap Res.fp) [osl oa oc (2 ^ K) 1 69 (x.flatMap slhV), fam x (bcmp sq K r bs (frs ((2 ^ K : Nat) : Int) ((r : Nat) : Int)).length)] w' ∧ (x.length = 2 ^ K ∧ ∀ k, k < 2 ^ K → (x.getD k default).n = z)) := by
 refine calls_S (n := 38) (σ0 := (upd (upd (upd fr0 0 (.slice oa (2 ^ K) oc)) 1 (.int .i64 ((r : Nat) : Int))) 2 (.bool sq))) (D := (([osl oa oc (2 ^ K) 1 69 (hd.flatMap slhV), fam hd bs] : List Res).flatMap Res.fp)) (A := [osl oa oc (2 ^ K) 1 69 (hd.flatMap slhV), fam hd bs]) Try.func209 rfl Try.ntmps209 rfl (a3_fr _ _ _) hA ?_
 have hp2 : 2 ^ K ≤ 32 := Nat.pow_le_pow_right (n := 2) (by decide) hK
 have hp1 := Nat.two_pow_pos K
 have hrt : rnd ((2 ^ K : Nat) : Int) ≤ 21 := rnd21 (by omega)
 refine wpS_seq ?_
 refine wpS_region ?_
 refine s_e rfl ?_
 refine e_box (v := .slice oa (2 ^ K) oc) (l := [.slice oa (2 ^ K) oc]) rfl rfl ?_
 intro b_1
 refine s_e rfl ?_
 refine e_box (v := .int .i64 ((r : Nat) : Int)) (l := [.int .i64 ((r : Nat) : Int)]) rfl rfl ?_
 intro b_2
 refine s_e rfl ?_
 refine e_box (v := .bool sq) (l := [.bool sq]) rfl rfl ?_
 intro b_3
 refine wpL_nil ?_
 refine thenS_n ?_
 refine wpS_seq ?_
 refine wpS_region ?_
 refine s_y (v := .slice oa (2 ^ K) oc) (y_load1 rfl Try.isAgg80 (own1 (.t (.t .h)) rfl)) rfl ?_
 refine s_y (v := .int .i64 (((2 ^ K) : Nat) : Int)) (y_len (ty' := 0) (at_ := #[]) rfl Try.underlying80) rfl ?_
 refine s_y (v := .int .i64 ((r : Nat) : Int)) (y_load1 rfl Try.isAgg3 (own1 (.t .h) rfl)) rfl ?_
 refine s_e rfl ?_
 refine e_call (f := 53) (args := #[.int .i64 (((2 ^ K) : Nat) : Int), .int .i64 ((r : Nat) : Int)]) (X := Nat × Nat) (A := []) (M := [cel b_3 4 [.bool sq], cel b_2 3 [.int .i64 ((r : Nat) : Int)], cel b_1 80 [.slice oa (2 ^ K) oc], osl oa oc (2 ^ K) 1 69 (hd.flatMap slhV), fam hd bs]) (V := fun x : Nat × Nat => .func (.func 152) #[] #[.pointer (some ⟨x.1, 0, none⟩), .pointer (some ⟨x.2, 0, none⟩)]) (A' := fun x : Nat × Nat => [cel x.1 3 [.int .i64 (((2 ^ K) : Nat) : Int)], cel x.2 3 [.int .i64 ((r : Nat) : Int)]]) (C := fun _ => True) Try.call53 (ev2 rfl rfl) (.p .h (.p .h (.p .h (.p .h (.p .h .nil))))) (fun w hs => round_c (((2 ^ K) : Nat) : Int) ((r : Nat) : Int) w) ?_
 rintro ⟨b_4, b_5⟩ -
 refine wpL_nil ?_
 refine thenS_n ?_
 refine wpS_block ?_
 refine wpS_rangeFunc (f := 152) (cap := #[.pointer (some ⟨b_4, 0, none⟩), .pointer (some ⟨b_5, 0, none⟩)]) (enc := fun k => #[.int .i64 (((frs (((2 ^ K) : Nat) : Int) ((r : Nat) : Int)).getD k 0 : Nat) : Int), .int .i64 (((frs (((2 ^ K) : Nat) : Int) ((r : Nat) : Int)).getD k 0 + far (((2 ^ K) : Nat) : Int) ((r : Nat) : Int) : Nat) : Int)]) (N := ((frs (((2 ^ K) : Nat) : Int) ((r : Nat) : Int)).length)) (rd := fun x => x = b_4 ∨ x = b_5) (A := [cel b_3 4 [.bool sq], cel b_2 3 [.int .i64 ((r : Nat) : Int)], cel b_1 80 [.slice oa (2 ^ K) oc], osl oa oc (2 ^ K) 1 69 (hd.flatMap slhV), fam hd bs]) (M := [cel b_4 3 [.int .i64 (((2 ^ K) : Nat) : Int)], cel b_5 3 [.int .i64 ((r : Nat) : Int)]]) (fun k A => ∃ hd2 : List SlH, ∃ bs2 : List (List Rec), (hd2.length = 2 ^ K) ∧ (∀ i, i < 2 ^ K → (hd2.getD i default).n = z) ∧ (BInv sq (2 ^ K) z bs2) ∧ (bs2 = (bcmp sq K r bs k)) ∧ A = [cel b_3 4 [.bool sq], cel b_2 3 [.int .i64 ((r : Nat) : Int)], cel b_1 80 [.slice oa (2 ^ K) oc], osl oa oc (2 ^ K) 1 69 (hd2.flatMap slhV), fam hd2 bs2]) (fun k e A => False) rfl Try.call152 (by kernel_rfl) (fun _ => rfl) (.p (.t (.t .h)) (.p (.t (.t .h)) (.p (.t (.t .h)) (.p (.t (.t .h)) (.p (.t (.t .h)) (.p .h (.p .h .nil))))))) ⟨hd, bs, hl, hN, hB0, rfl, rfl⟩ (fun w hs => (round_at b_4 b_5 (((2 ^ K) : Nat) : Int) ((r : Nat) : Int) (by omega) (by omega) (by omega) (by omega) w (own1 (.t (.t (.t (.t (.t .h))))) rfl w hs) (own1 (.t (.t (.t (.t (.t (.t .h)))))) rfl w hs)).it) (fun w hs b hb => by rcases hb with rfl | rfl; exact apM (A := [cel b_3 4 [.bool sq], cel b_2 3 [.int .i64 ((r : Nat) : Int)], cel b_1 80 [.slice oa (2 ^ K) oc], osl oa oc (2 ^ K) 1 69 (hd.flatMap slhV), fam hd bs]) hs .h (by simp [cel, blk]); exact apM (A := [cel b_3 4 [.bool sq], cel b_2 3 [.int .i64 ((r : Nat) : Int)], cel b_1 80 [.slice oa (2 ^ K) oc], osl oa oc (2 ^ K) 1 69 (hd.flatMap slhV), fam hd bs]) hs (.t .h) (by simp [cel, blk])) ?_ ?_ ?_
 ·
  rintro k A' hk_6 ⟨hd2, bs2, hf0_6, hf1_6, hf2_6, hf3_6, rfl⟩ w_6 l_6 hs_6
  refine wpS_seq ?_
  refine wpS_region ?_
  refine s_y (v := .int .i64 ((((frs (((2 ^ K) : Nat) : Int) ((r : Nat) : Int)).getD k 0) : Nat) : Int)) (y_assign rfl) rfl ?_
  have hB := (by assumption : BInv sq (2 ^ K) z bs2)
  have HN := (by assumption : ∀ i, i < 2 ^ K → (hd2.getD i default).n = z)
  have hbl2 : bs2.length = 2 ^ K := hB.1
  obtain ⟨pa, hfi⟩ := pairK (K := K) (r := r) (i := k) (by omega) (by omega) (by assumption)
  have hDD := farK (K := K) (r := r) (by omega) (by omega)
  have hDp := Nat.two_pow_pos ((stK K r).2 - 1)
  have hlt := hfi.lt
  rw [← hDD] at hlt hDp
  have hna := HN pa (by omega)
  have hnb := HN (pa + (far ((2 ^ K : Nat) : Int) ((r : Nat) : Int))) (by omega)
  have hla := binv_len hB (show pa < 2 ^ K by omega)
  have hlb := binv_len hB (show pa + (far ((2 ^ K : Nat) : Int) ((r : Nat) : Int)) < 2 ^ K by omega)
  have hml := mgd_len sq (bs2.getD pa []) (bs2.getD (pa + (far ((2 ^ K : Nat) : Int) ((r : Nat) : Int))) [])
  refine wpL_nil ?_
  refine thenS_n ?_
  refine wpS_region ?_
  refine s_y (v := .int .i64 ((((frs (((2 ^ K) : Nat) : Int) ((r : Nat) : Int)).getD k 0 + far (((2 ^ K) : Nat) : Int) ((r : Nat) : Int)) : Nat) : Int)) (y_assign rfl) rfl ?_
  refine wpL_nil ?_
  refine asg_n fun w2_6 hs2_6 => ?_
  refine wpS_block ?_
  refine wpS_anyT [cel b_3 4 [.bool sq], cel b_2 3 [.int .i64 ((r : Nat) : Int)], cel b_1 80 [.slice oa (2 ^ K) oc]] [cel b_3 4 [.bool sq], cel b_2 3 [.int .i64 ((r : Nat) : Int)], cel b_1 80 [.slice oa (2 ^ K) oc], osl oa oc (2 ^ K) 1 69 (hd2.flatMap slhV)] [0, 1, 2, 3, 4, 5, 8, 9, 12, 13, 14, 15, 16, 19, 20, 21, 23, 24, 25] (by kernel_rfl) ?_
  refine anyT_takeF (i := 0) rfl (by kernel_rfl) (by kernel_rfl) (by kernel_rfl) (by kernel_rfl) (Yq.of (v := .slice oa (2 ^ K) oc) (y_load1 rfl Try.isAgg80 (own1 (.t (.t .h)) rfl)) rfl) (.p .h (.p .h (.p .h .nil))) ?_
  refine anyT_takeF (i := 1) rfl (by kernel_rfl) (by kernel_rfl) (by kernel_rfl) (by kernel_rfl) (Yq.of (v := .int .i64 ((pa : Nat) : Int)) (y_move (congrArg (fun n : Nat => Value.int .i64 (n : Int)) hfi.g)) rfl) (.p .h (.p .h (.p .h .nil))) ?_
  refine anyT_takeF (i := 2) rfl (by kernel_rfl) (by kernel_rfl) (by kernel_rfl) (by kernel_rfl) (Yq.of (v := .slice oa (2 ^ K) oc) (y_load1 rfl Try.isAgg80 (own1 (.t (.t .h)) rfl)) rfl) (.p .h (.p .h (.p .h .nil))) ?_
  refine anyT_takeF (i := 3) rfl (by kernel_rfl) (by kernel_rfl) (by kernel_rfl) (by kernel_rfl) (Yq.of (v := .int .i64 (((pa + (far ((2 ^ K : Nat) : Int) ((r : Nat) : Int))) : Nat) : Int)) (y_move (congrArg (fun n : Nat => Value.int .i64 ((n + (far ((2 ^ K : Nat) : Int) ((r : Nat) : Int)) : Nat) : Int)) hfi.g)) rfl) (.p .h (.p .h (.p .h .nil))) ?_
  refine anyT_takeF (i := 4) rfl (by kernel_rfl) (by kernel_rfl) (by kernel_rfl) (by kernel_rfl) (Yq.of (v := .slice oa (2 ^ K) oc) (y_load1 rfl Try.isAgg80 (own1 (.t (.t .h)) rfl)) rfl) (.p .h (.p .h (.p .h .nil))) ?_
  refine anyT_takeF (i := 5) rfl (by kernel_rfl) (by kernel_rfl) (by kernel_rfl) (by kernel_rfl) (Yq.of (v := .int .i64 ((pa : Nat) : Int)) (y_move (congrArg (fun n : Nat => Value.int .i64 (n : Int)) hfi.g)) rfl) (.p .h (.p .h (.p .h .nil))) ?_
  refine anyT_takeF (i := 8) rfl (by kernel_rfl) (by kernel_rfl) (by kernel_rfl) (by kernel_rfl) (Yq.of (v := .slice oa (2 ^ K) oc) (y_load1 rfl Try.isAgg80 (own1 (.t (.t .h)) rfl)) rfl) (.p .h (.p .h (.p .h .nil))) ?_
  refine anyT_takeF (i := 9) rfl (by kernel_rfl) (by kernel_rfl) (by kernel_rfl) (by kernel_rfl) (Yq.of (v := .int .i64 (((pa + (far ((2 ^ K : Nat) : Int) ((r : Nat) : Int))) : Nat) : Int)) (y_move (congrArg (fun n : Nat => Value.int .i64 ((n + (far ((2 ^ K : Nat) : Int) ((r : Nat) : Int)) : Nat) : Int)) hfi.g)) rfl) (.p .h (.p .h (.p .h .nil))) ?_
  refine anyT_takeF (i := 12) rfl (by kernel_rfl) (by kernel_rfl) (by kernel_rfl) (by kernel_rfl) (Yq.of (v := .bool sq) (y_load1 rfl Try.isAgg4 (own1 .h rfl)) rfl) (.p .h (.p .h (.p .h .nil))) ?_
  refine anyT_takeF (i := 13) rfl (by kernel_rfl) (by kernel_rfl) (by kernel_rfl) (by kernel_rfl) (Yq.of (v := .slice oa (2 ^ K) oc) (y_load1 rfl Try.isAgg80 (own1 (.t (.t .h)) rfl)) rfl) (.p .h (.p .h (.p .h .nil))) ?_
  refine anyT_takeF (i := 14) rfl (by kernel_rfl) (by kernel_rfl) (by kernel_rfl) (by kernel_rfl) (Yq.of (v := .int .i64 (((2 ^ K) : Nat) : Int)) (y_len (ty' := 0) (at_ := #[]) rfl Try.underlying80) rfl) (.p .h (.p .h (.p .h .nil))) ?_
  refine anyT_takeF (i := 15) rfl (by kernel_rfl) (by kernel_rfl) (by kernel_rfl) (by kernel_rfl) (Yq.of (v := .int .i64 ((r : Nat) : Int)) (y_load1 rfl Try.isAgg3 (own1 (.t .h) rfl)) rfl) (.p .h (.p .h (.p .h .nil))) ?_
  refine anyT_takeF (i := 16) rfl (by kernel_rfl) (by kernel_rfl) (by kernel_rfl) (by kernel_rfl) (Yq.of (v := .int .i64 ((pa : Nat) : Int)) (y_move (congrArg (fun n : Nat => Value.int .i64 (n : Int)) hfi.g)) rfl) (.p .h (.p .h (.p .h .nil))) ?_
  refine anyT_take (i := 6) rfl (by kernel_rfl) (by kernel_rfl) (by kernel_rfl) (by kernel_rfl) (Yq.of (v := .pointer (some ⟨aB oa, aO oa + pa * 1, none⟩)) (y_idx (o := pa * 1) rfl rfl Try.underlying80 Try.sizeOf69 (oslR (.t (.t (.t .h)))) ((fl_len slhV_len _).trans (by first | omega | (simp only [List.length_set, List.length_take, List.length_drop]; done) | (simp only [List.length_set, List.length_take, List.length_drop]; omega))) (by decide) (by omega) (by omega) (by omega)) rfl) (.p .h (.p .h (.p .h (.p .h .nil)))) (.p .h (.p .h (.p .h .nil))) ?_
  refine anyT_take (i := 7) rfl (by kernel_rfl) (by kernel_rfl) (by kernel_rfl) (by kernel_rfl) (Yq.of (v := .slice ((hd2.getD pa default).a) ((hd2.getD pa default).n) ((hd2.getD pa default).c)) (y_load1 (v := .slice ((hd2.getD pa default).a) ((hd2.getD pa default).n) ((hd2.getD pa default).c)) rfl Try.isAgg69 (rd1 (k := pa * 1) (oslR (.t (.t (.t .h)))) (fl_get0 slhV_len hd2 pa (by first | omega | (simp only [List.length_set, List.length_take, List.length_drop]; done) | (simp only [List.length_set, List.length_take, List.length_drop]; omega)) rfl))) rfl) (.p .h (.p .h (.p .h (.p .h .nil)))) (.p .h (.p .h (.p .h .nil))) ?_
  refine anyT_take (i := 10) rfl (by kernel_rfl) (by kernel_rfl) (by kernel_rfl) (by kernel_rfl) (Yq.of (v := .pointer (some ⟨aB oa, aO oa + (pa + (far ((2 ^ K : Nat) : Int) ((r : Nat) : Int))) * 1, none⟩)) (y_idx (o := (pa + (far ((2 ^ K : Nat) : Int) ((r : Nat) : Int))) * 1) rfl rfl Try.underlying80 Try.sizeOf69 (oslR (.t (.t (.t .h)))) ((fl_len slhV_len _).trans (by first | omega | (simp only [List.length_set, List.length_take, List.length_drop]; done) | (simp only [List.length_set, List.length_take, List.length_drop]; omega))) (by decide) (by omega) (by omega) (by omega)) rfl) (.p .h (.p .h (.p .h (.p .h .nil)))) (.p .h (.p .h (.p .h .nil))) ?_
  refine anyT_take (i := 11) rfl (by kernel_rfl) (by kernel_rfl) (by kernel_rfl) (by kernel_rfl) (Yq.of (v := .slice ((hd2.getD (pa + (far ((2 ^ K : Nat) : Int) ((r : Nat) : Int))) default).a) ((hd2.getD (pa + (far ((2 ^ K : Nat) : Int) ((r : Nat) : Int))) default).n) ((hd2.getD (pa + (far ((2 ^ K : Nat) : Int) ((r : Nat) : Int))) default).c)) (y_load1 (v := .slice ((hd2.getD (pa + (far ((2 ^ K : Nat) : Int) ((r : Nat) : Int))) default).a) ((hd2.getD (pa + (far ((2 ^ K : Nat) : Int) ((r : Nat) : Int))) default).n) ((hd2.getD (pa + (far ((2 ^ K : Nat) : Int) ((r : Nat) : Int))) default).c)) rfl Try.isAgg69 (rd1 (k := (pa + (far ((2 ^ K : Nat) : Int) ((r : Nat) : Int))) * 1) (oslR (.t (.t (.t .h)))) (fl_get0 slhV_len hd2 (pa + (far ((2 ^ K : Nat) : Int) ((r : Nat) : Int))) (by first | omega | (simp only [List.length_set, List.length_take, List.length_drop]; done) | (simp only [List.length_set, List.length_take, List.length_drop]; omega)) rfl))) rfl) (.p .h (.p .h (.p .h (.p .h .nil)))) (.p .h (.p .h (.p .h .nil))) ?_
  refine anyT_take (i := 17) rfl (by kernel_rfl) (by kernel_rfl) (by kernel_rfl) (by kernel_rfl) (Yq.of (v := .bool (up (((2 ^ K) : Nat) : Int) ((r : Nat) : Int) ((pa : Nat) : Int))) (y_call (args := #[.int .i64 (((2 ^ K) : Nat) : Int), .int .i64 ((r : Nat) : Int), .int .i64 ((pa : Nat) : Int)]) (v := .bool (up (((2 ^ K) : Nat) : Int) ((r : Nat) : Int) ((pa : Nat) : Int))) Try.call59 (ev3 rfl rfl rfl) (fun w hs => up_c (((2 ^ K) : Nat) : Int) ((r : Nat) : Int) ((pa : Nat) : Int) (by omega) (by omega) (by omega) (by omega) (by omega) (by omega) w)) rfl) (.p .h (.p .h (.p .h (.p .h .nil)))) (.p .h (.p .h (.p .h .nil))) ?_
  refine anyT_all (rs := [18]) (by kernel_rfl) (by simp) ?_
  intro i hi; obtain rfl := List.mem_singleton.1 hi; clear hi
  refine opS_0 rfl rfl ?_
  refine e_call (f := 239) (args := #[.slice ((hd2.getD pa default).a) ((hd2.getD pa default).n) ((hd2.getD pa default).c), .slice ((hd2.getD (pa + (far ((2 ^ K : Nat) : Int) ((r : Nat) : Int))) default).a) ((hd2.getD (pa + (far ((2 ^ K : Nat) : Int) ((r : Nat) : Int))) default).n) ((hd2.getD (pa + (far ((2 ^ K : Nat) : Int) ((r : Nat) : Int))) default).c), .bool sq, .bool (up (((2 ^ K) : Nat) : Int) ((r : Nat) : Int) ((pa : Nat) : Int))]) (X := Option Addr × Nat) (A := []) (M := [cel b_3 4 [.bool sq], cel b_2 3 [.int .i64 ((r : Nat) : Int)], cel b_1 80 [.slice oa (2 ^ K) oc], osl oa oc (2 ^ K) 1 69 (hd2.flatMap slhV), fam hd2 bs2]) (V := fun x : Option Addr × Nat => .tuple #[.slice (tA (up (((2 ^ K) : Nat) : Int) ((r : Nat) : Int) ((pa : Nat) : Int)) x.1 x.2 z) z (tC (up (((2 ^ K) : Nat) : Int) ((r : Nat) : Int) ((pa : Nat) : Int)) x.2 z), .slice (tA (!(up (((2 ^ K) : Nat) : Int) ((r : Nat) : Int) ((pa : Nat) : Int))) x.1 x.2 z) z (tC (!(up (((2 ^ K) : Nat) : Int) ((r : Nat) : Int) ((pa : Nat) : Int))) x.2 z)]) (A' := fun x => [slR recV 4 23 (mgd sq (bs2.getD pa []) (bs2.getD (pa + (far ((2 ^ K : Nat) : Int) ((r : Nat) : Int))) [])) x]) (C := fun x => (mgd sq (bs2.getD pa []) (bs2.getD (pa + (far ((2 ^ K : Nat) : Int) ((r : Nat) : Int))) [])).length ≤ x.2) Try.call239 (ev4 rfl rfl rfl rfl) (.p .h (.p .h (.p .h (.p .h (.p .h .nil))))) (fun w hs => by have h := turned_c ((hd2.getD pa default).a) ((hd2.getD (pa + (far ((2 ^ K : Nat) : Int) ((r : Nat) : Int))) default).a) z ((hd2.getD pa default).c) ((hd2.getD (pa + (far ((2 ^ K : Nat) : Int) ((r : Nat) : Int))) default).c) (bs2.getD pa []) (bs2.getD (pa + (far ((2 ^ K : Nat) : Int) ((r : Nat) : Int))) []) sq (up (((2 ^ K) : Nat) : Int) ((r : Nat) : Int) ((pa : Nat) : Int)) w hla hlb ((fam_rd (.t (.t (.t (.t .h)))) (by omega)) w hs) ((fam_rd (.t (.t (.t (.t .h)))) (by omega)) w hs) (by omega); rw [hna, hnb]; exact h) ?_
  rintro ⟨a_7, c_8⟩ hc9; replace hc9 : (mgd sq (bs2.getD pa []) (bs2.getD (pa + (far ((2 ^ K : Nat) : Int) ((r : Nat) : Int))) [])).length ≤ c_8 := hc9
  refine ⟨.inr ⟨.p (.t .h) (.p (.t .h) (.p (.t .h) (.p (.t .h) .nil))), .p (.t .h) (.p (.t .h) (.p (.t .h) .nil))⟩, ?_⟩
  refine anyT_takeF (i := 19) rfl (by kernel_rfl) (by kernel_rfl) (by kernel_rfl) (by kernel_rfl) (Yq.of (v := .tuple #[.slice (tA (up (((2 ^ K) : Nat) : Int) ((r : Nat) : Int) ((pa : Nat) : Int)) a_7 c_8 z) z (tC (up (((2 ^ K) : Nat) : Int) ((r : Nat) : Int) ((pa : Nat) : Int)) c_8 z), .slice (tA (!(up (((2 ^ K) : Nat) : Int) ((r : Nat) : Int) ((pa : Nat) : Int))) a_7 c_8 z) z (tC (!(up (((2 ^ K) : Nat) : Int) ((r : Nat) : Int) ((pa : Nat) : Int))) c_8 z)]) (y_move rfl) rfl) (.p (.t .h) (.p (.t .h) (.p (.t .h) .nil))) ?_
  refine anyT_takeF (i := 20) rfl (by kernel_rfl) (by kernel_rfl) (by kernel_rfl) (by kernel_rfl) (Yq.of (v := .slice (tA (up (((2 ^ K) : Nat) : Int) ((r : Nat) : Int) ((pa : Nat) : Int)) a_7 c_8 z) z (tC (up (((2 ^ K) : Nat) : Int) ((r : Nat) : Int) ((pa : Nat) : Int)) c_8 z)) (y_extract (v := .slice (tA (up (((2 ^ K) : Nat) : Int) ((r : Nat) : Int) ((pa : Nat) : Int)) a_7 c_8 z) z (tC (up (((2 ^ K) : Nat) : Int) ((r : Nat) : Int) ((pa : Nat) : Int)) c_8 z)) rfl rfl) rfl) (.p (.t .h) (.p (.t .h) (.p (.t .h) .nil))) ?_
  refine anyT_takeF (i := 21) rfl (by kernel_rfl) (by kernel_rfl) (by kernel_rfl) (by kernel_rfl) (Yq.of (v := .slice (tA (!(up (((2 ^ K) : Nat) : Int) ((r : Nat) : Int) ((pa : Nat) : Int))) a_7 c_8 z) z (tC (!(up (((2 ^ K) : Nat) : Int) ((r : Nat) : Int) ((pa : Nat) : Int))) c_8 z)) (y_extract (v := .slice (tA (!(up (((2 ^ K) : Nat) : Int) ((r : Nat) : Int) ((pa : Nat) : Int))) a_7 c_8 z) z (tC (!(up (((2 ^ K) : Nat) : Int) ((r : Nat) : Int) ((pa : Nat) : Int))) c_8 z)) rfl rfl) rfl) (.p (.t .h) (.p (.t .h) (.p (.t .h) .nil))) ?_
  refine anyT_take (i := 22) rfl (by kernel_rfl) (by kernel_rfl) (by kernel_rfl) (by kernel_rfl) (Yq.of (v := .pointer (some ⟨aB oa, aO oa + pa * 1, none⟩)) (y_idx (o := pa * 1) rfl rfl Try.underlying80 Try.sizeOf69 (oslR (.t (.t (.t .h)))) ((fl_len slhV_len _).trans (by first | omega | (simp only [List.length_set, List.length_take, List.length_drop]; done) | (simp only [List.length_set, List.length_take, List.length_drop]; omega))) (by decide) (by omega) (by omega) (by omega)) rfl) (.p (.t .h) (.p (.t .h) (.p (.t .h) (.p (.t .h) .nil)))) (.p (.t .h) (.p (.t .h) (.p (.t .h) .nil))) ?_
  refine anyT_all (rs := [23]) (by kernel_rfl) (by simp) ?_
  intro i hi; obtain rfl := List.mem_singleton.1 hi; clear hi
  refine opS_0 rfl rfl ?_
  refine e_storeL (enc := slhV) (xs := hd2) (y := (SlH.mk (tA (up (((2 ^ K) : Nat) : Int) ((r : Nat) : Int) ((pa : Nat) : Int)) a_7 c_8 z) z (tC (up (((2 ^ K) : Nat) : Int) ((r : Nat) : Int) ((pa : Nat) : Int)) c_8 z))) slhV_len slhV_one (by decide) rfl rfl rfl Try.sizeOf69 (.t (.t (.t (.t .h)))) (by (try simp only [List.length_set]); omega) ?_
  refine ⟨.inl ⟨by simp, .p (.t (.t .h)) (.p (.t (.t .h)) (.p (.t (.t .h)) .nil))⟩, ?_⟩
  refine anyT_all (rs := [24]) (by kernel_rfl) (by simp) ?_
  intro i hi; obtain rfl := List.mem_singleton.1 hi; clear hi
  refine opS_0 rfl rfl ?_
  refine OpE.y (v := .pointer (some ⟨aB oa, aO oa + (pa + (far ((2 ^ K : Nat) : Int) ((r : Nat) : Int))) * 1, none⟩)) (y_idx (o := (pa + (far ((2 ^ K : Nat) : Int) ((r : Nat) : Int))) * 1) rfl rfl Try.underlying80 Try.sizeOf69 (oslR .h) ((fl_len slhV_len _).trans (by first | omega | (simp only [List.length_set, List.length_take, List.length_drop]; done) | (simp only [List.length_set, List.length_take, List.length_drop]; omega))) (by decide) (by omega) (by omega) (by omega)) ?_
  refine ⟨.inl ⟨by simp, .p (.t (.t .h)) (.p (.t (.t .h)) (.p (.t (.t .h)) .nil))⟩, ?_⟩
  refine anyT_all (rs := [25]) (by kernel_rfl) (by simp) ?_
  intro i hi; obtain rfl := List.mem_singleton.1 hi; clear hi
  refine opS_0 rfl rfl ?_
  refine OpE.ent (fam_trn (up (((2 ^ K) : Nat) : Int) ((r : Nat) : Int) ((pa : Nat) : Int)) (.t .h) (.t (.t (.t (.t .h)))) (by omega) (by omega) (i := pa) (j := (pa + (far ((2 ^ K : Nat) : Int) ((r : Nat) : Int)))) (z := z) (n1 := z) (n2 := z) (by omega) (by omega)) ?_
  refine e_storeL (enc := slhV) (xs := (hd2.set pa (SlH.mk (tA (up (((2 ^ K) : Nat) : Int) ((r : Nat) : Int) ((pa : Nat) : Int)) a_7 c_8 z) z (tC (up (((2 ^ K) : Nat) : Int) ((r : Nat) : Int) ((pa : Nat) : Int)) c_8 z)))) (y := (SlH.mk (tA (!(up (((2 ^ K) : Nat) : Int) ((r : Nat) : Int) ((pa : Nat) : Int))) a_7 c_8 z) z (tC (!(up (((2 ^ K) : Nat) : Int) ((r : Nat) : Int) ((pa : Nat) : Int))) c_8 z))) slhV_len slhV_one (by decide) rfl rfl rfl Try.sizeOf69 (.t .h) (by (try simp only [List.length_set]); omega) ?_
  refine ⟨.inl ⟨by simp, .p (.t (.t .h)) (.p (.t (.t .h)) (.p (.t (.t .h)) .nil))⟩, ?_⟩
  refine anyT_done (by kernel_rfl) ?_
  refine blockS_n ?_
  exact rnd_n ⟨[cel b_3 4 [.bool sq], cel b_2 3 [.int .i64 ((r : Nat) : Int)], cel b_1 80 [.slice oa (2 ^ K) oc], osl oa oc (2 ^ K) 1 69 (((hd2.set pa (SlH.mk (tA (up (((2 ^ K) : Nat) : Int) ((r : Nat) : Int) ((pa : Nat) : Int)) a_7 c_8 z) z (tC (up (((2 ^ K) : Nat) : Int) ((r : Nat) : Int) ((pa : Nat) : Int)) c_8 z))).set (pa + (far ((2 ^ K : Nat) : Int) ((r : Nat) : Int))) (SlH.mk (tA (!(up (((2 ^ K) : Nat) : Int) ((r : Nat) : Int) ((pa : Nat) : Int))) a_7 c_8 z) z (tC (!(up (((2 ^ K) : Nat) : Int) ((r : Nat) : Int) ((pa : Nat) : Int))) c_8 z))).flatMap slhV), fam ((hd2.set pa (SlH.mk (tA (up (((2 ^ K) : Nat) : Int) ((r : Nat) : Int) ((pa : Nat) : Int)) a_7 c_8 z) z (tC (up (((2 ^ K) : Nat) : Int) ((r : Nat) : Int) ((pa : Nat) : Int)) c_8 z))).set (pa + (far ((2 ^ K : Nat) : Int) ((r : Nat) : Int))) (SlH.mk (tA (!(up (((2 ^ K) : Nat) : Int) ((r : Nat) : Int) ((pa : Nat) : Int))) a_7 c_8 z) z (tC (!(up (((2 ^ K) : Nat) : Int) ((r : Nat) : Int) ((pa : Nat) : Int))) c_8 z))) ((bs2.set pa (tD (up (((2 ^ K) : Nat) : Int) ((r : Nat) : Int) ((pa : Nat) : Int)) (mgd sq (bs2.getD pa []) (bs2.getD (pa + (far ((2 ^ K : Nat) : Int) ((r : Nat) : Int))) [])) z)).set (pa + (far ((2 ^ K : Nat) : Int) ((r : Nat) : Int))) (tD (!(up (((2 ^ K) : Nat) : Int) ((r : Nat) : Int) ((pa : Nat) : Int))) (mgd sq (bs2.getD pa []) (bs2.getD (pa + (far ((2 ^ K : Nat) : Int) ((r : Nat) : Int))) [])) z))], .p (.t (.t .h)) (.p (.t (.t .h)) (.p (.t (.t .h)) (.p .h (.p .h .nil)))), ⟨((hd2.set pa (SlH.mk (tA (up (((2 ^ K) : Nat) : Int) ((r : Nat) : Int) ((pa : Nat) : Int)) a_7 c_8 z) z (tC (up (((2 ^ K) : Nat) : Int) ((r : Nat) : Int) ((pa : Nat) : Int)) c_8 z))).set (pa + (far ((2 ^ K : Nat) : Int) ((r : Nat) : Int))) (SlH.mk (tA (!(up (((2 ^ K) : Nat) : Int) ((r : Nat) : Int) ((pa : Nat) : Int))) a_7 c_8 z) z (tC (!(up (((2 ^ K) : Nat) : Int) ((r : Nat) : Int) ((pa : Nat) : Int))) c_8 z))), ((bs2.set pa (tD (up (((2 ^ K) : Nat) : Int) ((r : Nat) : Int) ((pa : Nat) : Int)) (mgd sq (bs2.getD pa []) (bs2.getD (pa + (far ((2 ^ K : Nat) : Int) ((r : Nat) : Int))) [])) z)).set (pa + (far ((2 ^ K : Nat) : Int) ((r : Nat) : Int))) (tD (!(up (((2 ^ K) : Nat) : Int) ((r : Nat) : Int) ((pa : Nat) : Int))) (mgd sq (bs2.getD pa []) (bs2.getD (pa + (far ((2 ^ K : Nat) : Int) ((r : Nat) : Int))) [])) z)), (by rw [List.length_set, List.length_set]; assumption), (hn_set (by assumption) (by omega) (by omega) HN rfl rfl), (binv_eq (by rw [hDD] at *; exact bst_trn (by assumption) (by assumption) hfi (by assumption) rfl) (bst_inv (by assumption) hB (by assumption) hfi)), (by rw [hDD] at *; exact bst_trn (by assumption) (by assumption) hfi (by assumption) rfl), rfl⟩⟩
 ·
  rintro d_6 A' ⟨hd2, bs2, hf0_6, hf1_6, hf2_6, hf3_6, rfl⟩
  refine blockS_n ?_
  exact fin0 (.inl rfl) (.p .h (.p (.t (.t (.t .h))) (.p (.t (.t (.t .h))) .nil))) Try.results209 (fun w' hs => ⟨hd2, rfl, by rw [(by assumption : bs2 = (bcmp sq K r bs (frs ((2 ^ K : Nat) : Int) ((r : Nat) : Int)).length))] at hs; exact hs, by assumption, by assumption⟩)
 ·
  intro _ _ _ _ _ h; exact h.elim
theorem rightJ_c {R m S : Nat} {W : Int} {nb K : Nat} (h : JP R m S W nb K) (w : World) : Pure Try.prog 206 #[.agg #[.int .i64 (((R : Nat) : Int)), .int .i64 (((m : Nat) : Int)), .int .i64 (((S : Nat) : Int)), .int .i64 (W)]] w (.int .i64 0) := by
  have h1 := right_c ⟨R, m, S, W⟩ w
  have h2 : bad ⟨R, m, S, W⟩ = 0 := by unfold bad; rw [if_pos h.ok]
  rw [h2] at h1
  exact h1
theorem may_c (a1 a2 a3 : Option Addr) (n1 c1 n2 c2 n3 c3 : Nat) (l1 l2 l3 : List Opc) (R m S : Nat) (W : Int) (nb K : Nat) (ga : Option Addr) (gc : Nat) (li : List Pr) (w : World) (hj : JP R m S W nb K) (hn1 : l1.length = n1) (hr1 : Rds w a1 (l1.flatMap opcV)) (hb1 : n1 ≤ 1000000) (hn2 : l2.length = n2) (hr2 : Rds w a2 (l2.flatMap opcV)) (hb2 : n2 ≤ 1000000) (hn3 : l3.length = n3) (hr3 : Rds w a3 (l3.flatMap opcV)) (hb3 : n3 ≤ 1000000) (hck : (chkB ((m : Nat) : Int) l1 l2 l3) = true) (hl : li.length = R) : Pure Try.prog 207 #[.agg #[.int .i64 ((m : Nat) : Int), .slice a1 n1 c1, .slice a2 n2 c2, .slice a3 n3 c3], .agg #[.int .i64 ((R : Nat) : Int), .int .i64 ((m : Nat) : Int), .int .i64 ((S : Nat) : Int), .int .i64 W], .slice ga R gc] w (.int .i64 0) := by
 refine calls_S (n := 31) (σ0 := (upd (upd (upd fr0 0 (.agg #[.int .i64 ((m : Nat) : Int), .slice a1 n1 c1, .slice a2 n2 c2, .slice a3 n3 c3])) 1 (.agg #[.int .i64 ((R : Nat) : Int), .int .i64 ((m : Nat) : Int), .int .i64 ((S : Nat) : Int), .int .i64 W])) 2 (.slice ga R gc))) (D := []) (A := []) Try.func207 rfl Try.ntmps207 rfl (a3_fr _ _ _) (SH.start w) ?_
 refine wpS_seq ?_
 refine wpS_region ?_
 refine s_e rfl ?_
 refine e_box (v := .agg #[.int .i64 ((m : Nat) : Int), .slice a1 n1 c1, .slice a2 n2 c2, .slice a3 n3 c3]) (l := [.int .i64 ((m : Nat) : Int), .slice a1 n1 c1, .slice a2 n2 c2, .slice a3 n3 c3]) rfl rfl ?_
 intro b_1
 refine s_e rfl ?_
 refine e_box (v := .agg #[.int .i64 ((R : Nat) : Int), .int .i64 ((m : Nat) : Int), .int .i64 ((S : Nat) : Int), .int .i64 W]) (l := [.int .i64 ((R : Nat) : Int), .int .i64 ((m : Nat) : Int), .int .i64 ((S : Nat) : Int), .int .i64 W]) rfl rfl ?_
 intro b_2
 refine s_y (v := .int .i64 0) (y_assign rfl) rfl ?_
 refine wpL_nil ?_
 refine thenS_n ?_
 refine wpS_seq ?_
 refine wpS_seq ?_
 refine wpS_region ?_
 refine s_y (v := .agg #[.int .i64 ((R : Nat) : Int), .int .i64 ((m : Nat) : Int), .int .i64 ((S : Nat) : Int), .int .i64 W]) (y_loadN rfl Try.isAgg53 Try.sizeOf53 (ownN .h rfl)) rfl ?_
 refine s_y (v := .int .i64 0) (y_call (args := #[.agg #[.int .i64 ((R : Nat) : Int), .int .i64 ((m : Nat) : Int), .int .i64 ((S : Nat) : Int), .int .i64 W]]) Try.call206 (ev1 rfl) (fun w hs => rightJ_c hj w)) rfl ?_
 refine s_y (v := .int .i64 0) (y_assign rfl) rfl ?_
 refine wpL_nil ?_
 refine thenS_n ?_
 refine wpS_block ?_
 refine wpS_seq ?_
 refine wpS_region ?_
 refine s_y (v := .int .i64 0) (y_move rfl) rfl ?_
 refine s_y (v := .bool false) (y_neq (a := 0) (b := 0) (c := false) rfl rfl (by decide)) rfl ?_
 refine s_y (v := .bool false) (y_assign rfl) rfl ?_
 refine wpL_nil ?_
 refine thenS_n ?_
 refine wpS_cond_f rfl ?_
 refine wpS_seq ?_
 refine wpS_region ?_
 refine s_y (v := .agg #[.int .i64 ((m : Nat) : Int), .slice a1 n1 c1, .slice a2 n2 c2, .slice a3 n3 c3]) (y_loadN rfl Try.isAgg84 Try.sizeOf84 (ownN (.t .h) rfl)) rfl ?_
 refine s_y (v := .int .i64 0) (y_call (args := #[.agg #[.int .i64 ((m : Nat) : Int), .slice a1 n1 c1, .slice a2 n2 c2, .slice a3 n3 c3]]) Try.call84 (ev1 rfl) (fun w hs => by have h := check_c ((m : Nat) : Int) a1 a2 a3 n1 c1 n2 c2 n3 c3 l1 l2 l3 w hn1 ((oldR hr1) w hs) (by omega) hn2 ((oldR hr2) w hs) (by omega) hn3 ((oldR hr3) w hs) (by omega); rw [chk_0 hck] at h; exact h)) rfl ?_
 refine s_y (v := .bool false) (y_neq (a := 0) (b := 0) (c := false) rfl rfl (by decide)) rfl ?_
 refine s_y (v := .bool false) (y_move rfl) rfl ?_
 refine s_gy (y_fieldAddr (o' := 0) rfl Try.underlying84 rfl Try.sizeOf3 (by decide) rfl) rfl rfl rfl rfl rfl rfl ?_
 refine s_gy (y_load1 rfl Try.isAgg3 (own1 (.t .h) rfl)) rfl rfl rfl rfl rfl rfl ?_
 refine s_gy (y_fieldAddr (o' := 1) rfl Try.underlying53 rfl Try.sizeOf3 (by decide) rfl) rfl rfl rfl rfl rfl rfl ?_
 refine s_gy (y_load1 rfl Try.isAgg3 (own1 .h rfl)) rfl rfl rfl rfl rfl rfl ?_
 refine s_gy (y_neq (a := ((m : Nat) : Int)) (b := ((m : Nat) : Int)) (c := decide (m ≠ m)) rfl rfl (decide_eq_decide.2 (by omega))) rfl rfl rfl rfl rfl rfl ?_
 refine s_y (v := .bool (decide (m ≠ m))) (y_pickF rfl rfl rfl) rfl ?_
 refine s_y (v := .bool (decide (m ≠ m))) (y_assign rfl) rfl ?_
 refine wpL_nil ?_
 refine thenS_n ?_
 refine wpS_cond_F (t := decide (m ≠ m)) rfl (decide_eq_false (by omega)) ?_
 refine wpS_seq ?_
 refine wpS_region ?_
 refine s_y (v := .slice ga R gc) (y_move rfl) rfl ?_
 refine s_y (v := .int .i64 ((R : Nat) : Int)) (y_len (ty' := 0) (at_ := #[]) rfl Try.underlying153) rfl ?_
 refine s_y (v := .pointer (some ⟨b_2, 0, none⟩)) (y_fieldAddr (o' := 0) rfl Try.underlying53 rfl Try.sizeOf3 (by decide) rfl) rfl ?_
 refine s_y (v := .int .i64 ((R : Nat) : Int)) (y_load1 rfl Try.isAgg3 (own1 .h rfl)) rfl ?_
 refine s_y (v := .bool (decide (R ≠ R))) (y_neq (a := ((R : Nat) : Int)) (b := ((R : Nat) : Int)) (c := decide (R ≠ R)) rfl rfl (decide_eq_decide.2 (by omega))) rfl ?_
 refine s_y (v := .bool (decide (R ≠ R))) (y_assign rfl) rfl ?_
 refine wpL_nil ?_
 refine thenS_n ?_
 refine wpS_cond_F (t := decide (R ≠ R)) rfl (decide_eq_false (by omega)) ?_
 refine wpS_skip ?_
 refine blockS_n ?_
 refine thenS_n ?_
 refine wpS_seq ?_
 refine wpS_region ?_
 refine s_y (v := .int .i64 0) (y_assign rfl) rfl ?_
 refine wpL_nil ?_
 refine thenS_n ?_
 refine wpS_ret ?_
 refine fin1 (M := []) (v := .int .i64 0) (.inr rfl) (.nil) Try.results207 rfl ?_
 exact fun w' hs => ⟨rfl, hs⟩
theorem stage_c (a1 a2 a3 : Option Addr) (n1 c1 n2 c2 n3 c3 : Nat) (l1 l2 l3 : List Opc) (R m S : Nat) (W : Int) (nb K : Nat) (ga : Option Addr) (gc : Nat) (li : List Pr) (t : Nat) (w : World) (hj : JP R m S W nb K) (hn1 : l1.length = n1) (hr1 : Rds w a1 (l1.flatMap opcV)) (hb1 : n1 ≤ 1000000) (hn2 : l2.length = n2) (hr2 : Rds w a2 (l2.flatMap opcV)) (hb2 : n2 ≤ 1000000) (hn3 : l3.length = n3) (hr3 : Rds w a3 (l3.flatMap opcV)) (hb3 : n3 ≤ 1000000) (hck : (chkB ((m : Nat) : Int) l1 l2 l3) = true) (hl : li.length = R) (hr : Rds w ga (li.flatMap prV)) (ht1 : 1 ≤ t) (ht2 : t ≤ 2 + 2 * (rnd ((2 ^ K : Nat) : Int))) : Makes Try.prog 136 #[.agg #[.int .i64 ((m : Nat) : Int), .slice a1 n1 c1, .slice a2 n2 c2, .slice a3 n3 c3], .agg #[.int .i64 ((R : Nat) : Int), .int .i64 ((m : Nat) : Int), .int .i64 ((S : Nat) : Int), .int .i64 W], .slice ga R gc, .int .i64 ((t : Nat) : Int)] w [] (X := (Option Addr × Nat) × List SlH) (fun x => .tuple #[.slice x.1.1 (2 ^ K) x.1.2, .int .i64 0]) (fun x => [osl x.1.1 x.1.2 (2 ^ K) 1 69 (x.2.flatMap slhV), fam x.2 (stg3 (chkB ((m : Nat) : Int) l1 l2 l3) l2 l3 K (mpD (chkB ((m : Nat) : Int) l1 l2 l3) ((m : Nat) : Int) l1 S m li nb (2 ^ K)) t)]) (fun x => x.2.length = (2 ^ K) ∧ ∀ k, k < (2 ^ K) → (x.2.getD k default).n = S) := by
 refine calls_S (n := 98) (σ0 := (upd (upd (upd (upd fr0 0 (.agg #[.int .i64 ((m : Nat) : Int), .slice a1 n1 c1, .slice a2 n2 c2, .slice a3 n3 c3])) 1 (.agg #[.int .i64 ((R : Nat) : Int), .int .i64 ((m : Nat) : Int), .int .i64 ((S : Nat) : Int), .int .i64 W])) 2 (.slice ga R gc)) 3 (.int .i64 ((t : Nat) : Int)))) (D := []) (A := []) Try.func136 rfl Try.ntmps136 rfl (a4_fr _ _ _ _) (SH.start w) ?_
 obtain ⟨hjok, hjb, hjs, hK5, ⟨hR1, hR2⟩, ⟨hm1, hm2⟩, ⟨hS1, hS2⟩, hnm, hrs, hrs2, ⟨hnb1, hnb2⟩⟩ := hj
 have hj : JP R m S W nb K := ⟨hjok, hjb, hjs, hK5, ⟨hR1, hR2⟩, ⟨hm1, hm2⟩, ⟨hS1, hS2⟩, hnm, hrs, hrs2, ⟨hnb1, hnb2⟩⟩
 have hp2 : 2 ^ K ≤ 32 := Nat.pow_le_pow_right (n := 2) (by decide) hK5
 have hp1 := Nat.two_pow_pos K
 have hI := jpM (li := li) hj hck
 have hrt : (rnd ((2 ^ K : Nat) : Int)) ≤ 21 := rnd21 (by omega)
 refine wpS_seq ?_
 refine wpS_region ?_
 refine s_e rfl ?_
 refine e_box (v := .agg #[.int .i64 ((m : Nat) : Int), .slice a1 n1 c1, .slice a2 n2 c2, .slice a3 n3 c3]) (l := [.int .i64 ((m : Nat) : Int), .slice a1 n1 c1, .slice a2 n2 c2, .slice a3 n3 c3]) rfl rfl ?_
 intro b_1
 refine s_e rfl ?_
 refine e_box (v := .agg #[.int .i64 ((R : Nat) : Int), .int .i64 ((m : Nat) : Int), .int .i64 ((S : Nat) : Int), .int .i64 W]) (l := [.int .i64 ((R : Nat) : Int), .int .i64 ((m : Nat) : Int), .int .i64 ((S : Nat) : Int), .int .i64 W]) rfl rfl ?_
 intro b_2
 refine s_y (v := .slice none 0 0) (y_assign rfl) rfl ?_
 refine s_y (v := .int .i64 0) (y_assign rfl) rfl ?_
 refine wpL_nil ?_
 refine thenS_n ?_
 refine wpS_seq ?_
 refine wpS_seq ?_
 refine wpS_region ?_
 refine s_y (v := .agg #[.int .i64 ((m : Nat) : Int), .slice a1 n1 c1, .slice a2 n2 c2, .slice a3 n3 c3]) (y_loadN rfl Try.isAgg84 Try.sizeOf84 (ownN (.t .h) rfl)) rfl ?_
 refine s_y (v := .agg #[.int .i64 ((R : Nat) : Int), .int .i64 ((m : Nat) : Int), .int .i64 ((S : Nat) : Int), .int .i64 W]) (y_loadN rfl Try.isAgg53 Try.sizeOf53 (ownN .h rfl)) rfl ?_
 refine s_y (v := .slice ga R gc) (y_move rfl) rfl ?_
 refine s_y (v := .int .i64 0) (y_call (args := #[.agg #[.int .i64 ((m : Nat) : Int), .slice a1 n1 c1, .slice a2 n2 c2, .slice a3 n3 c3], .agg #[.int .i64 ((R : Nat) : Int), .int .i64 ((m : Nat) : Int), .int .i64 ((S : Nat) : Int), .int .i64 W], .slice ga R gc]) Try.call207 (ev3 rfl rfl rfl) (fun w hs => may_c a1 a2 a3 n1 c1 n2 c2 n3 c3 l1 l2 l3 R m S W nb K ga gc li w hj hn1 ((oldR hr1) w hs) (by omega) hn2 ((oldR hr2) w hs) (by omega) hn3 ((oldR hr3) w hs) (by omega) hck hl)) rfl ?_
 refine s_y (v := .int .i64 0) (y_assign rfl) rfl ?_
 refine wpL_nil ?_
 refine thenS_n ?_
 refine wpS_seq ?_
 refine wpS_region ?_
 refine s_y (v := .int .i64 0) (y_move rfl) rfl ?_
 refine s_y (v := .bool false) (y_neq (a := 0) (b := 0) (c := false) rfl rfl (by decide)) rfl ?_
 refine wpL_nil ?_
 refine thenS_n ?_
 refine wpS_cond_f rfl ?_
 refine wpS_skip ?_
 refine thenS_n ?_
 refine wpS_seq ?_
 refine wpS_region ?_
 refine s_y (v := .agg #[.int .i64 ((R : Nat) : Int), .int .i64 ((m : Nat) : Int), .int .i64 ((S : Nat) : Int), .int .i64 W]) (y_loadN rfl Try.isAgg53 Try.sizeOf53 (ownN .h rfl)) rfl ?_
 refine s_y (v := .tuple #[.int .i64 ((nb : Nat) : Int), .int .i64 (((2 ^ K) : Nat) : Int)]) (y_call (args := #[.agg #[.int .i64 ((R : Nat) : Int), .int .i64 ((m : Nat) : Int), .int .i64 ((S : Nat) : Int), .int .i64 W]]) Try.call135 (ev1 rfl) (fun w hs => blocksJ_c hj w)) rfl ?_
 refine s_y (v := .tuple #[.int .i64 ((nb : Nat) : Int), .int .i64 (((2 ^ K) : Nat) : Int)]) (y_move rfl) rfl ?_
 refine s_y (v := .int .i64 ((nb : Nat) : Int)) (y_extract rfl rfl) rfl ?_
 refine s_y (v := .int .i64 (((2 ^ K) : Nat) : Int)) (y_extract rfl rfl) rfl ?_
 refine s_y (v := .int .i64 ((nb : Nat) : Int)) (y_assign rfl) rfl ?_
 refine s_y (v := .int .i64 (((2 ^ K) : Nat) : Int)) (y_assign rfl) rfl ?_
 refine wpL_nil ?_
 refine thenS_n ?_
 refine wpS_seq ?_
 refine wpS_region ?_
 refine s_y (v := .int .i64 (((2 ^ K) : Nat) : Int)) (y_move rfl) rfl ?_
 refine s_y (v := .int .i64 (((rnd (((2 ^ K) : Nat) : Int)) : Nat) : Int)) (y_call (args := #[.int .i64 (((2 ^ K) : Nat) : Int)]) Try.call52 (ev1 rfl) (fun w hs => rounds_c (((2 ^ K) : Nat) : Int) (by omega) (by omega) w)) rfl ?_
 refine s_y (v := .int .i64 (((rnd (((2 ^ K) : Nat) : Int)) : Nat) : Int)) (y_assign rfl) rfl ?_
 refine wpL_nil ?_
 refine thenS_n ?_
 refine wpS_seq ?_
 refine wpS_block ?_
 refine wpS_seq ?_
 refine wpS_region ?_
 refine s_y (v := .int .i64 ((t : Nat) : Int)) (y_move rfl) rfl ?_
 refine s_y (v := .bool (decide ((t : Nat) < 0))) (y_lss (a := ((t : Nat) : Int)) (b := 0) (c := decide ((t : Nat) < 0)) rfl rfl (decide_eq_decide.2 (by omega))) rfl ?_
 refine s_y (v := .bool (decide ((t : Nat) < 0))) (y_move rfl) rfl ?_
 refine s_gy (y_move rfl) rfl rfl rfl rfl (b' := decide ((t : Nat) < 0)) rfl (decide_eq_false (by omega)) ?_
 refine s_gy (y_move rfl) rfl rfl rfl rfl (b' := decide ((t : Nat) < 0)) rfl (decide_eq_false (by omega)) ?_
 refine s_gy (y_mul (a := 2) (b := (((rnd (((2 ^ K) : Nat) : Int)) : Nat) : Int)) (c := (((2 * (rnd (((2 ^ K) : Nat) : Int))) : Nat) : Int)) rfl rfl (wI (by omega) (by omega) (by omega))) rfl rfl rfl rfl (b' := decide ((t : Nat) < 0)) rfl (decide_eq_false (by omega)) ?_
 refine s_gy (y_add (a := 2) (b := (((2 * (rnd (((2 ^ K) : Nat) : Int))) : Nat) : Int)) (c := (((2 + (2 * (rnd (((2 ^ K) : Nat) : Int)))) : Nat) : Int)) rfl rfl (wI (by omega) (by omega) (by omega))) rfl rfl rfl rfl (b' := decide ((t : Nat) < 0)) rfl (decide_eq_false (by omega)) ?_
 refine s_gy (y_gtr (a := ((t : Nat) : Int)) (b := (((2 + (2 * (rnd (((2 ^ K) : Nat) : Int)))) : Nat) : Int)) (c := decide ((2 + (2 * (rnd (((2 ^ K) : Nat) : Int)))) < t)) rfl rfl (decide_eq_decide.2 (by omega))) rfl rfl rfl rfl (b' := decide ((t : Nat) < 0)) rfl (decide_eq_false (by omega)) ?_
 refine s_y (v := .bool (decide ((2 + (2 * (rnd (((2 ^ K) : Nat) : Int)))) < t))) (y_pickF (b := decide ((t : Nat) < 0)) rfl (decide_eq_false (by omega)) rfl) rfl ?_
 refine s_y (v := .bool (decide ((2 + (2 * (rnd (((2 ^ K) : Nat) : Int)))) < t))) (y_assign rfl) rfl ?_
 refine wpL_nil ?_
 refine thenS_n ?_
 refine wpS_cond_F (t := decide ((2 + (2 * (rnd (((2 ^ K) : Nat) : Int)))) < t)) rfl (decide_eq_false (by omega)) ?_
 refine wpS_seq ?_
 refine wpS_region ?_
 refine s_y (v := .int .i64 ((t : Nat) : Int)) (y_move rfl) rfl ?_
 refine s_y (v := .bool (decide ((t : Nat) = 0))) (y_eql (a := ((t : Nat) : Int)) (b := 0) (c := decide ((t : Nat) = 0)) rfl rfl (decide_eq_decide.2 (by omega))) rfl ?_
 refine s_y (v := .bool (decide ((t : Nat) = 0))) (y_assign rfl) rfl ?_
 refine wpL_nil ?_
 refine thenS_n ?_
 refine wpS_cond_F (t := decide ((t : Nat) = 0)) rfl (decide_eq_false (by omega)) ?_
 refine wpS_skip ?_
 refine blockS_n ?_
 refine thenS_n ?_
 refine wpS_seq ?_
 refine wpS_region ?_
 refine s_y (v := .agg #[.int .i64 ((m : Nat) : Int), .slice a1 n1 c1, .slice a2 n2 c2, .slice a3 n3 c3]) (y_loadN rfl Try.isAgg84 Try.sizeOf84 (ownN (.t .h) rfl)) rfl ?_
 refine s_y (v := .agg #[.int .i64 ((R : Nat) : Int), .int .i64 ((m : Nat) : Int), .int .i64 ((S : Nat) : Int), .int .i64 W]) (y_loadN rfl Try.isAgg53 Try.sizeOf53 (ownN .h rfl)) rfl ?_
 refine s_y (v := .slice ga R gc) (y_move rfl) rfl ?_
 refine s_e rfl ?_
 refine e_call (f := 208) (args := #[.agg #[.int .i64 ((m : Nat) : Int), .slice a1 n1 c1, .slice a2 n2 c2, .slice a3 n3 c3], .agg #[.int .i64 ((R : Nat) : Int), .int .i64 ((m : Nat) : Int), .int .i64 ((S : Nat) : Int), .int .i64 W], .slice ga R gc]) (X := (Option Addr × Nat) × List SlH) (A := []) (M := [cel b_2 53 [.int .i64 ((R : Nat) : Int), .int .i64 ((m : Nat) : Int), .int .i64 ((S : Nat) : Int), .int .i64 W], cel b_1 84 [.int .i64 ((m : Nat) : Int), .slice a1 n1 c1, .slice a2 n2 c2, .slice a3 n3 c3]]) (V := fun x => .slice x.1.1 (2 ^ K) x.1.2) (A' := fun x => [osl x.1.1 x.1.2 (2 ^ K) 1 69 (x.2.flatMap slhV), fam x.2 (mpD (chkB ((m : Nat) : Int) l1 l2 l3) ((m : Nat) : Int) l1 S m li nb (2 ^ K))]) (C := fun x => x.2.length = (2 ^ K) ∧ ∀ k, k < (2 ^ K) → (x.2.getD k default).n = S) Try.call208 (ev3 rfl rfl rfl) (.p .h (.p .h .nil)) (fun w hs => mappedA_c a1 a2 a3 n1 c1 n2 c2 n3 c3 l1 l2 l3 R m S W nb K ga gc li w hj hn1 ((oldR hr1) w hs) (by omega) hn2 ((oldR hr2) w hs) (by omega) hn3 ((oldR hr3) w hs) (by omega) hck hl ((oldR hr) w hs)) ?_
 rintro ⟨⟨a_3, c_4⟩, h_5⟩ ⟨hH6l, hH6n⟩
 replace hH6l : h_5.length = (2 ^ K) := hH6l
 replace hH6n : ∀ k, k < (2 ^ K) → (h_5.getD k default).n = S := hH6n
 refine s_y (v := .slice a_3 (2 ^ K) c_4) (y_assign rfl) rfl ?_
 refine wpL_nil ?_
 refine thenS_n ?_
 refine wpS_seq ?_
 refine wpS_seq ?_
 refine wpS_region ?_
 refine s_y (v := .int .i64 ((t : Nat) : Int)) (y_move rfl) rfl ?_
 refine s_y (v := .int .i64 (((t - 1) : Nat) : Int)) (y_sub (a := ((t : Nat) : Int)) (b := 1) rfl rfl (wI (by omega) (by omega) (by omega))) rfl ?_
 refine s_y (v := .int .i64 (((rnd (((2 ^ K) : Nat) : Int)) : Nat) : Int)) (y_move rfl) rfl ?_
 refine s_y (v := .int .i64 (((min (t - 1) (rnd (((2 ^ K) : Nat) : Int))) : Nat) : Int)) (y_min (a := (((t - 1) : Nat) : Int)) (b := (((rnd (((2 ^ K) : Nat) : Int)) : Nat) : Int)) rfl rfl (by split <;> omega)) rfl ?_
 refine s_y (v := .int .i64 0) (y_move rfl) rfl ?_
 refine wpL_nil ?_
 refine thenS_n ?_
 refine wpS_block ?_
 refine wpS_loop (fun mez ds σ L => ∃ q : Nat, ∃ hd : List SlH, mez = (min (t - 1) (rnd ((2 ^ K : Nat) : Int))) - q ∧ (q ≤ min (t - 1) (rnd ((2 ^ K : Nat) : Int))) ∧ (hd.length = 2 ^ K) ∧ (∀ i, i < 2 ^ K → (hd.getD i default).n = S) ∧ ds = [] ∧ σ 3 = .int .i64 ((t : Nat) : Int) ∧ σ 4 = .pointer (some ⟨b_1, 0, none⟩) ∧ σ 13 = .int .i64 (((rnd (((2 ^ K) : Nat) : Int)) : Nat) : Int) ∧ σ 14 = .slice a_3 (2 ^ K) c_4 ∧ σ 53 = .int .i64 (((min (t - 1) (rnd (((2 ^ K) : Nat) : Int))) : Nat) : Int) ∧ σ 54 = .int .i64 ((q : Nat) : Int) ∧ Ent L [osl a_3 c_4 (2 ^ K) 1 69 (hd.flatMap slhV), fam hd (bnet true K (mpD (chkB ((m : Nat) : Int) l1 l2 l3) ((m : Nat) : Int) l1 S m li nb (2 ^ K)) q), cel b_2 53 [.int .i64 ((R : Nat) : Int), .int .i64 ((m : Nat) : Int), .int .i64 ((S : Nat) : Int), .int .i64 W], cel b_1 84 [.int .i64 ((m : Nat) : Int), .slice a1 n1 c1, .slice a2 n2 c2, .slice a3 n3 c3]]) (m0 := (min (t - 1) (rnd ((2 ^ K : Nat) : Int))) - 0) ⟨0, h_5, rfl, by omega, (by assumption), (by assumption), rfl, rfl, rfl, rfl, rfl, rfl, rfl, .p .h (.p .h (.p .h (.p .h .nil)))⟩ ?_
 rintro mez ds σ L ⟨q, hd, hm_7, hf0_7, hf1_7, hf2_7, rfl, h3_7, h4_7, h13_7, h14_7, h53_7, h54_7, hE_7⟩
 refine wpS_ent hE_7 ?_; clear hE_7
 have hbn := (hI.inv1 q (by omega)).1
 refine wpS_seq ?_
 refine wpS_region ?_
 refine s_y (v := .bool (decide (q < (min (t - 1) (rnd (((2 ^ K) : Nat) : Int)))))) (y_lss (a := ((q : Nat) : Int)) (b := (((min (t - 1) (rnd (((2 ^ K) : Nat) : Int))) : Nat) : Int)) (c := decide (q < (min (t - 1) (rnd (((2 ^ K) : Nat) : Int))))) h54_7 h53_7 (decide_eq_decide.2 (by omega))) rfl ?_
 refine wpL_nil ?_
 refine thenS_n ?_
 refine wpS_seq ?_
 refine wpS_cond (t := decide (q < (min (t - 1) (rnd (((2 ^ K) : Nat) : Int))))) rfl (fun b8 => ?_) (fun b8 => ?_)
 ·
  have p8 := of_decide_eq_true b8
  refine wpS_skip ?_
  refine thenS_n ?_
  refine wpS_seq ?_
  refine wpS_block ?_
  refine wpS_seq ?_
  refine wpS_region ?_
  refine s_y (v := .int .i64 ((q : Nat) : Int)) (y_move h54_7) rfl ?_
  refine s_y (v := .int .i64 ((q : Nat) : Int)) (y_assign rfl) rfl ?_
  refine wpL_nil ?_
  refine thenS_n ?_
  refine wpS_region ?_
  refine s_y (v := .slice a_3 (2 ^ K) c_4) (y_move h14_7) rfl ?_
  refine s_y (v := .int .i64 ((q : Nat) : Int)) (y_move rfl) rfl ?_
  refine s_e rfl ?_
  refine e_call (f := 209) (args := #[.slice a_3 (2 ^ K) c_4, .int .i64 ((q : Nat) : Int), .bool true]) (X := List SlH) (A := [osl a_3 c_4 (2 ^ K) 1 69 (hd.flatMap slhV), fam hd (bnet true K (mpD (chkB ((m : Nat) : Int) l1 l2 l3) ((m : Nat) : Int) l1 S m li nb (2 ^ K)) q)]) (M := [cel b_2 53 [.int .i64 ((R : Nat) : Int), .int .i64 ((m : Nat) : Int), .int .i64 ((S : Nat) : Int), .int .i64 W], cel b_1 84 [.int .i64 ((m : Nat) : Int), .slice a1 n1 c1, .slice a2 n2 c2, .slice a3 n3 c3]]) (V := fun _ => .tuple #[]) (A' := fun x => [osl a_3 c_4 (2 ^ K) 1 69 (x.flatMap slhV), fam x (bcmp true K q (bnet true K (mpD (chkB ((m : Nat) : Int) l1 l2 l3) ((m : Nat) : Int) l1 S m li nb (2 ^ K)) q) (frs ((2 ^ K : Nat) : Int) ((q : Nat) : Int)).length)]) (C := fun x => x.length = 2 ^ K ∧ ∀ k, k < 2 ^ K → (x.getD k default).n = S) Try.call209 (ev3 rfl rfl rfl) (.p .h (.p .h (.p .h (.p .h .nil)))) (fun w hs => (round_cc a_3 c_4 hd (bnet true K (mpD (chkB ((m : Nat) : Int) l1 l2 l3) ((m : Nat) : Int) l1 S m li nb (2 ^ K)) q) K q S true w (by omega) (by omega) (by assumption) (by assumption) (by first | exact hI.inv1 _ (by omega) | exact hI.inv3 _ (by omega)) (by omega) (SH.lend hs)).mono (fun e w2 hx => hx.elim fun x hx => ⟨x, hx.1, hx.2.1, hx.2.2⟩)) ?_
  rintro h_9 ⟨hR10l, hR10n⟩
  replace hR10l : h_9.length = 2 ^ K := hR10l
  replace hR10n : ∀ k, k < 2 ^ K → (h_9.getD k default).n = S := hR10n
  refine wpL_nil ?_
  refine blockS_n ?_
  refine thenS_n ?_
  refine wpS_region ?_
  refine s_y (v := .int .i64 (((q + 1) : Nat) : Int)) (y_add (a := ((q : Nat) : Int)) (b := 1) h54_7 rfl (wI (by omega) (by omega) (by omega))) rfl ?_
  refine s_y (v := .int .i64 (((q + 1) : Nat) : Int)) (y_move rfl) rfl ?_
  refine wpL_nil ?_
  refine thenS_n ?_
  rw [bnet_next (by omega) (by omega)]
  exact ⟨_, by omega, ⟨(q + 1), h_9, rfl, by omega, (by assumption), (by assumption), rfl, h3_7, h4_7, h13_7, h14_7, h53_7, rfl, .p .h (.p .h (.p .h (.p .h .nil)))⟩⟩
 ·
  have p8 := of_decide_eq_false b8
  refine wpS_exit ?_
  refine thenS_x ?_
  refine thenS_x ?_
  refine blockS_h ?_
  refine thenS_n ?_
  refine wpS_seq ?_
  refine wpS_seq ?_
  refine wpS_region ?_
  refine s_y (v := .int .i64 ((t : Nat) : Int)) (y_move h3_7) rfl ?_
  refine s_y (v := .int .i64 (((rnd (((2 ^ K) : Nat) : Int)) : Nat) : Int)) (y_move h13_7) rfl ?_
  refine s_y (v := .int .i64 (((2 + (rnd (((2 ^ K) : Nat) : Int))) : Nat) : Int)) (y_add (a := 2) (b := (((rnd (((2 ^ K) : Nat) : Int)) : Nat) : Int)) rfl rfl (wI (by omega) (by omega) (by omega))) rfl ?_
  refine s_y (v := .bool (decide (t < (2 + (rnd (((2 ^ K) : Nat) : Int)))))) (y_lss (a := ((t : Nat) : Int)) (b := (((2 + (rnd (((2 ^ K) : Nat) : Int))) : Nat) : Int)) (c := decide (t < (2 + (rnd (((2 ^ K) : Nat) : Int))))) rfl rfl (decide_eq_decide.2 (by omega))) rfl ?_
  refine wpL_nil ?_
  refine thenS_n ?_
  refine wpS_cond (t := decide (t < (2 + (rnd (((2 ^ K) : Nat) : Int))))) rfl (fun b11 => ?_) (fun b11 => ?_)
  ·
   have p11 := of_decide_eq_true b11
   refine wpS_seq ?_
   refine wpS_region ?_
   refine s_y (v := .slice a_3 (2 ^ K) c_4) (y_move h14_7) rfl ?_
   refine s_y (v := .slice a_3 (2 ^ K) c_4) (y_assign rfl) rfl ?_
   refine s_y (v := .int .i64 0) (y_assign rfl) rfl ?_
   refine wpL_nil ?_
   refine thenS_n ?_
   refine wpS_ret ?_
   refine thenS_r ?_
   refine fin2 (M := [osl a_3 c_4 (2 ^ K) 1 69 (hd.flatMap slhV), fam hd (bnet true K (mpD (chkB ((m : Nat) : Int) l1 l2 l3) ((m : Nat) : Int) l1 S m li nb (2 ^ K)) q)]) (.inr rfl) (.p .h (.p .h .nil)) Try.results136 (rvT (v := .slice a_3 (2 ^ K) c_4) rfl) (rvT (v := .int .i64 0) rfl) ?_
   have e2 := stg_lo (b := (chkB ((m : Nat) : Int) l1 l2 l3)) (f := l2) (g := l3) (K := K) (M := (mpD (chkB ((m : Nat) : Int) l1 l2 l3) ((m : Nat) : Int) l1 S m li nb (2 ^ K))) (t := t) (q := q) (by assumption) (by omega)
   exact fun w' hs => ⟨((a_3, c_4), hd), rfl, by rw [← e2]; exact hs, by assumption, by assumption⟩
  ·
   have p11 := of_decide_eq_false b11
   refine wpS_skip ?_
   refine thenS_n ?_
   refine wpS_seq ?_
   refine wpS_region ?_
   refine s_y (v := .agg #[.bool deadR.dead, .int .i64 deadR.key.toInt, .int .i64 deadR.value.toInt, .int .i64 deadR.seq.toInt]) (y_call (args := #[]) Try.call49 ev0 (fun w hs => dead_c w)) rfl ?_
   refine s_e rfl ?_
   refine e_alloc (l := [.bool false, .int .i64 0, .int .i64 0, .int .i64 0]) Try.zeroValue23 rfl ?_
   intro b_12
   refine s_e0 ?_
   refine e_store (vs := [.bool deadR.dead, .int .i64 deadR.key.toInt, .int .i64 deadR.value.toInt, .int .i64 deadR.seq.toInt]) (l' := [.bool deadR.dead, .int .i64 deadR.key.toInt, .int .i64 deadR.value.toInt, .int .i64 deadR.seq.toInt]) rfl rfl rfl rfl Try.sizeOf23 .h (Nat.le_of_ble_eq_true rfl) rfl ?_
   refine wpL_nil ?_
   refine thenS_n ?_
   refine wpS_seq ?_
   refine wpS_seq ?_
   refine wpS_region ?_
   refine s_y (v := .slice a_3 (2 ^ K) c_4) (y_move h14_7) rfl ?_
   refine s_y (v := .int .i64 (((2 ^ K) : Nat) : Int)) (y_len (ty' := 0) (at_ := #[]) rfl Try.underlying80) rfl ?_
   refine s_y (v := .int .i64 0) (y_move rfl) rfl ?_
   refine wpL_nil ?_
   refine thenS_n ?_
   refine wpS_block ?_
   have hqr : q = (rnd ((2 ^ K : Nat) : Int)) := by omega
   subst hqr
   refine wpS_loop (fun mez ds σ L => ∃ a : Nat, ∃ hd1 : List SlH, mez = 2 ^ K - a ∧ (a ≤ 2 ^ K) ∧ (hd1.length = 2 ^ K) ∧ (∀ i, i < 2 ^ K → (hd1.getD i default).n = S) ∧ ds = [] ∧ σ 3 = .int .i64 ((t : Nat) : Int) ∧ σ 4 = .pointer (some ⟨b_1, 0, none⟩) ∧ σ 13 = .int .i64 (((rnd (((2 ^ K) : Nat) : Int)) : Nat) : Int) ∧ σ 14 = .slice a_3 (2 ^ K) c_4 ∧ σ 16 = .pointer (some ⟨b_12, 0, none⟩) ∧ σ 68 = .int .i64 (((2 ^ K) : Nat) : Int) ∧ σ 69 = .int .i64 ((a : Nat) : Int) ∧ Ent L [cel b_12 23 [.bool (((fdT (chkB ((m : Nat) : Int) l1 l2 l3) l2 l3 (bnet true K (mpD (chkB ((m : Nat) : Int) l1 l2 l3) ((m : Nat) : Int) l1 S m li nb (2 ^ K)) (rnd ((2 ^ K : Nat) : Int))) a).2).dead), .int .i64 ((((fdT (chkB ((m : Nat) : Int) l1 l2 l3) l2 l3 (bnet true K (mpD (chkB ((m : Nat) : Int) l1 l2 l3) ((m : Nat) : Int) l1 S m li nb (2 ^ K)) (rnd ((2 ^ K : Nat) : Int))) a).2).key).toInt), .int .i64 ((((fdT (chkB ((m : Nat) : Int) l1 l2 l3) l2 l3 (bnet true K (mpD (chkB ((m : Nat) : Int) l1 l2 l3) ((m : Nat) : Int) l1 S m li nb (2 ^ K)) (rnd ((2 ^ K : Nat) : Int))) a).2).value).toInt), .int .i64 ((((fdT (chkB ((m : Nat) : Int) l1 l2 l3) l2 l3 (bnet true K (mpD (chkB ((m : Nat) : Int) l1 l2 l3) ((m : Nat) : Int) l1 S m li nb (2 ^ K)) (rnd ((2 ^ K : Nat) : Int))) a).2).seq).toInt)], osl a_3 c_4 (2 ^ K) 1 69 (hd1.flatMap slhV), fam hd1 ((fdT (chkB ((m : Nat) : Int) l1 l2 l3) l2 l3 (bnet true K (mpD (chkB ((m : Nat) : Int) l1 l2 l3) ((m : Nat) : Int) l1 S m li nb (2 ^ K)) (rnd ((2 ^ K : Nat) : Int))) a).1), cel b_2 53 [.int .i64 ((R : Nat) : Int), .int .i64 ((m : Nat) : Int), .int .i64 ((S : Nat) : Int), .int .i64 W], cel b_1 84 [.int .i64 ((m : Nat) : Int), .slice a1 n1 c1, .slice a2 n2 c2, .slice a3 n3 c3]]) (m0 := 2 ^ K - 0) ⟨0, hd, rfl, by omega, (by assumption), (by assumption), rfl, h3_7, h4_7, h13_7, h14_7, rfl, rfl, rfl, .p .h (.p .h (.p .h (.p .h (.p .h .nil))))⟩ ?_
   rintro mez ds σ L ⟨a, hd1, hm_13, hf0_13, hf1_13, hf2_13, rfl, h3_13, h4_13, h13_13, h14_13, h16_13, h68_13, h69_13, hE_13⟩
   refine wpS_ent hE_13 ?_; clear hE_13
   have hI2 := hI.inv2 a (by omega)
   have HN1 := (by assumption : ∀ i, i < 2 ^ K → (hd1.getD i default).n = S)
   refine wpS_seq ?_
   refine wpS_region ?_
   refine s_y (v := .bool (decide (a < (2 ^ K)))) (y_lss (a := ((a : Nat) : Int)) (b := (((2 ^ K) : Nat) : Int)) (c := decide (a < (2 ^ K))) h69_13 h68_13 (decide_eq_decide.2 (by omega))) rfl ?_
   refine wpL_nil ?_
   refine thenS_n ?_
   refine wpS_seq ?_
   refine wpS_cond (t := decide (a < (2 ^ K))) rfl (fun b14 => ?_) (fun b14 => ?_)
   ·
    have p14 := of_decide_eq_true b14
    refine wpS_skip ?_
    refine thenS_n ?_
    refine wpS_seq ?_
    refine wpS_block ?_
    refine wpS_seq ?_
    refine wpS_region ?_
    refine s_y (v := .int .i64 ((a : Nat) : Int)) (y_move h69_13) rfl ?_
    refine s_y (v := .int .i64 ((a : Nat) : Int)) (y_assign rfl) rfl ?_
    refine wpL_nil ?_
    refine thenS_n ?_
    refine wpS_anyT [cel b_1 84 [.int .i64 ((m : Nat) : Int), .slice a1 n1 c1, .slice a2 n2 c2, .slice a3 n3 c3]] [cel b_12 23 [.bool (((fdT (chkB ((m : Nat) : Int) l1 l2 l3) l2 l3 (bnet true K (mpD (chkB ((m : Nat) : Int) l1 l2 l3) ((m : Nat) : Int) l1 S m li nb (2 ^ K)) (rnd ((2 ^ K : Nat) : Int))) a).2).dead), .int .i64 ((((fdT (chkB ((m : Nat) : Int) l1 l2 l3) l2 l3 (bnet true K (mpD (chkB ((m : Nat) : Int) l1 l2 l3) ((m : Nat) : Int) l1 S m li nb (2 ^ K)) (rnd ((2 ^ K : Nat) : Int))) a).2).key).toInt), .int .i64 ((((fdT (chkB ((m : Nat) : Int) l1 l2 l3) l2 l3 (bnet true K (mpD (chkB ((m : Nat) : Int) l1 l2 l3) ((m : Nat) : Int) l1 S m li nb (2 ^ K)) (rnd ((2 ^ K : Nat) : Int))) a).2).value).toInt), .int .i64 ((((fdT (chkB ((m : Nat) : Int) l1 l2 l3) l2 l3 (bnet true K (mpD (chkB ((m : Nat) : Int) l1 l2 l3) ((m : Nat) : Int) l1 S m li nb (2 ^ K)) (rnd ((2 ^ K : Nat) : Int))) a).2).seq).toInt)], osl a_3 c_4 (2 ^ K) 1 69 (hd1.flatMap slhV), cel b_1 84 [.int .i64 ((m : Nat) : Int), .slice a1 n1 c1, .slice a2 n2 c2, .slice a3 n3 c3]] [0, 1, 2, 4, 5, 9, 10, 11, 13, 14] (by kernel_rfl) ?_
    refine anyT_takeF (i := 0) rfl (by kernel_rfl) (by kernel_rfl) (by kernel_rfl) (by kernel_rfl) (Yq.of (v := .slice a_3 (2 ^ K) c_4) (y_move h14_13) rfl) (.p (.t (.t (.t (.t .h)))) .nil) ?_
    refine anyT_takeF (i := 1) rfl (by kernel_rfl) (by kernel_rfl) (by kernel_rfl) (by kernel_rfl) (Yq.of (v := .int .i64 ((a : Nat) : Int)) (y_move rfl) rfl) (.p (.t (.t (.t (.t .h)))) .nil) ?_
    refine anyT_takeF (i := 2) rfl (by kernel_rfl) (by kernel_rfl) (by kernel_rfl) (by kernel_rfl) (Yq.of (v := .agg #[.int .i64 ((m : Nat) : Int), .slice a1 n1 c1, .slice a2 n2 c2, .slice a3 n3 c3]) (y_loadN (vs := [.int .i64 ((m : Nat) : Int), .slice a1 n1 c1, .slice a2 n2 c2, .slice a3 n3 c3]) h4_13 Try.isAgg84 Try.sizeOf84 (ownN .h rfl)) rfl) (.p (.t (.t (.t (.t .h)))) .nil) ?_
    refine anyT_takeF (i := 4) rfl (by kernel_rfl) (by kernel_rfl) (by kernel_rfl) (by kernel_rfl) (Yq.of (v := .slice a_3 (2 ^ K) c_4) (y_move h14_13) rfl) (.p (.t (.t (.t (.t .h)))) .nil) ?_
    refine anyT_takeF (i := 5) rfl (by kernel_rfl) (by kernel_rfl) (by kernel_rfl) (by kernel_rfl) (Yq.of (v := .int .i64 ((a : Nat) : Int)) (y_move rfl) rfl) (.p (.t (.t (.t (.t .h)))) .nil) ?_
    refine anyT_take (i := 3) rfl (by kernel_rfl) (by kernel_rfl) (by kernel_rfl) (by kernel_rfl) (Yq.of (v := .agg #[.bool (((fdT (chkB ((m : Nat) : Int) l1 l2 l3) l2 l3 (bnet true K (mpD (chkB ((m : Nat) : Int) l1 l2 l3) ((m : Nat) : Int) l1 S m li nb (2 ^ K)) (rnd ((2 ^ K : Nat) : Int))) a).2).dead), .int .i64 ((((fdT (chkB ((m : Nat) : Int) l1 l2 l3) l2 l3 (bnet true K (mpD (chkB ((m : Nat) : Int) l1 l2 l3) ((m : Nat) : Int) l1 S m li nb (2 ^ K)) (rnd ((2 ^ K : Nat) : Int))) a).2).key).toInt), .int .i64 ((((fdT (chkB ((m : Nat) : Int) l1 l2 l3) l2 l3 (bnet true K (mpD (chkB ((m : Nat) : Int) l1 l2 l3) ((m : Nat) : Int) l1 S m li nb (2 ^ K)) (rnd ((2 ^ K : Nat) : Int))) a).2).value).toInt), .int .i64 ((((fdT (chkB ((m : Nat) : Int) l1 l2 l3) l2 l3 (bnet true K (mpD (chkB ((m : Nat) : Int) l1 l2 l3) ((m : Nat) : Int) l1 S m li nb (2 ^ K)) (rnd ((2 ^ K : Nat) : Int))) a).2).seq).toInt)]) (y_loadN (vs := [.bool (((fdT (chkB ((m : Nat) : Int) l1 l2 l3) l2 l3 (bnet true K (mpD (chkB ((m : Nat) : Int) l1 l2 l3) ((m : Nat) : Int) l1 S m li nb (2 ^ K)) (rnd ((2 ^ K : Nat) : Int))) a).2).dead), .int .i64 ((((fdT (chkB ((m : Nat) : Int) l1 l2 l3) l2 l3 (bnet true K (mpD (chkB ((m : Nat) : Int) l1 l2 l3) ((m : Nat) : Int) l1 S m li nb (2 ^ K)) (rnd ((2 ^ K : Nat) : Int))) a).2).key).toInt), .int .i64 ((((fdT (chkB ((m : Nat) : Int) l1 l2 l3) l2 l3 (bnet true K (mpD (chkB ((m : Nat) : Int) l1 l2 l3) ((m : Nat) : Int) l1 S m li nb (2 ^ K)) (rnd ((2 ^ K : Nat) : Int))) a).2).value).toInt), .int .i64 ((((fdT (chkB ((m : Nat) : Int) l1 l2 l3) l2 l3 (bnet true K (mpD (chkB ((m : Nat) : Int) l1 l2 l3) ((m : Nat) : Int) l1 S m li nb (2 ^ K)) (rnd ((2 ^ K : Nat) : Int))) a).2).seq).toInt)]) h16_13 Try.isAgg23 Try.sizeOf23 (ownN .h rfl)) rfl) (.p .h (.p .h (.p (.t (.t .h)) .nil))) (.p (.t (.t (.t (.t .h)))) .nil) ?_
    refine anyT_take (i := 6) rfl (by kernel_rfl) (by kernel_rfl) (by kernel_rfl) (by kernel_rfl) (Yq.of (v := .pointer (some ⟨aB a_3, aO a_3 + a * 1, none⟩)) (y_idx (o := a * 1) rfl rfl Try.underlying80 Try.sizeOf69 (oslR (.t .h)) ((fl_len slhV_len _).trans (by first | omega | (simp only [List.length_set, List.length_take, List.length_drop]; done) | (simp only [List.length_set, List.length_take, List.length_drop]; omega))) (by decide) (by omega) (by omega) (by omega)) rfl) (.p .h (.p .h (.p (.t (.t .h)) .nil))) (.p (.t (.t (.t (.t .h)))) .nil) ?_
    refine anyT_take (i := 7) rfl (by kernel_rfl) (by kernel_rfl) (by kernel_rfl) (by kernel_rfl) (Yq.of (v := .slice ((hd1.getD a default).a) ((hd1.getD a default).n) ((hd1.getD a default).c)) (y_load1 (v := .slice ((hd1.getD a default).a) ((hd1.getD a default).n) ((hd1.getD a default).c)) rfl Try.isAgg69 (rd1 (k := a * 1) (oslR (.t .h)) (fl_get0 slhV_len hd1 a (by first | omega | (simp only [List.length_set, List.length_take, List.length_drop]; done) | (simp only [List.length_set, List.length_take, List.length_drop]; omega)) rfl))) rfl) (.p .h (.p .h (.p (.t (.t .h)) .nil))) (.p (.t (.t (.t (.t .h)))) .nil) ?_
    have hblk := getD_len hI2 (show a < 2 ^ K by omega)
    have hhn := HN1 a (by omega)
    refine anyT_all (rs := [8]) (by kernel_rfl) (by simp) ?_
    intro i hi; obtain rfl := List.mem_singleton.1 hi; clear hi
    refine opS_0 rfl rfl ?_
    refine e_call (f := 210) (args := #[.agg #[.int .i64 ((m : Nat) : Int), .slice a1 n1 c1, .slice a2 n2 c2, .slice a3 n3 c3], .agg #[.bool (((fdT (chkB ((m : Nat) : Int) l1 l2 l3) l2 l3 (bnet true K (mpD (chkB ((m : Nat) : Int) l1 l2 l3) ((m : Nat) : Int) l1 S m li nb (2 ^ K)) (rnd ((2 ^ K : Nat) : Int))) a).2).dead), .int .i64 ((((fdT (chkB ((m : Nat) : Int) l1 l2 l3) l2 l3 (bnet true K (mpD (chkB ((m : Nat) : Int) l1 l2 l3) ((m : Nat) : Int) l1 S m li nb (2 ^ K)) (rnd ((2 ^ K : Nat) : Int))) a).2).key).toInt), .int .i64 ((((fdT (chkB ((m : Nat) : Int) l1 l2 l3) l2 l3 (bnet true K (mpD (chkB ((m : Nat) : Int) l1 l2 l3) ((m : Nat) : Int) l1 S m li nb (2 ^ K)) (rnd ((2 ^ K : Nat) : Int))) a).2).value).toInt), .int .i64 ((((fdT (chkB ((m : Nat) : Int) l1 l2 l3) l2 l3 (bnet true K (mpD (chkB ((m : Nat) : Int) l1 l2 l3) ((m : Nat) : Int) l1 S m li nb (2 ^ K)) (rnd ((2 ^ K : Nat) : Int))) a).2).seq).toInt)], .slice ((hd1.getD a default).a) ((hd1.getD a default).n) ((hd1.getD a default).c)]) (X := Option Addr × Nat) (A := []) (M := [cel b_12 23 [.bool (((fdT (chkB ((m : Nat) : Int) l1 l2 l3) l2 l3 (bnet true K (mpD (chkB ((m : Nat) : Int) l1 l2 l3) ((m : Nat) : Int) l1 S m li nb (2 ^ K)) (rnd ((2 ^ K : Nat) : Int))) a).2).dead), .int .i64 ((((fdT (chkB ((m : Nat) : Int) l1 l2 l3) l2 l3 (bnet true K (mpD (chkB ((m : Nat) : Int) l1 l2 l3) ((m : Nat) : Int) l1 S m li nb (2 ^ K)) (rnd ((2 ^ K : Nat) : Int))) a).2).key).toInt), .int .i64 ((((fdT (chkB ((m : Nat) : Int) l1 l2 l3) l2 l3 (bnet true K (mpD (chkB ((m : Nat) : Int) l1 l2 l3) ((m : Nat) : Int) l1 S m li nb (2 ^ K)) (rnd ((2 ^ K : Nat) : Int))) a).2).value).toInt), .int .i64 ((((fdT (chkB ((m : Nat) : Int) l1 l2 l3) l2 l3 (bnet true K (mpD (chkB ((m : Nat) : Int) l1 l2 l3) ((m : Nat) : Int) l1 S m li nb (2 ^ K)) (rnd ((2 ^ K : Nat) : Int))) a).2).seq).toInt)], osl a_3 c_4 (2 ^ K) 1 69 (hd1.flatMap slhV), fam hd1 ((fdT (chkB ((m : Nat) : Int) l1 l2 l3) l2 l3 (bnet true K (mpD (chkB ((m : Nat) : Int) l1 l2 l3) ((m : Nat) : Int) l1 S m li nb (2 ^ K)) (rnd ((2 ^ K : Nat) : Int))) a).1), cel b_2 53 [.int .i64 ((R : Nat) : Int), .int .i64 ((m : Nat) : Int), .int .i64 ((S : Nat) : Int), .int .i64 W], cel b_1 84 [.int .i64 ((m : Nat) : Int), .slice a1 n1 c1, .slice a2 n2 c2, .slice a3 n3 c3]]) (V := fun x => .tuple #[slV (msort false (stepO (chkB ((m : Nat) : Int) l1 l2 l3) l2 l3 ((fdT (chkB ((m : Nat) : Int) l1 l2 l3) l2 l3 (bnet true K (mpD (chkB ((m : Nat) : Int) l1 l2 l3) ((m : Nat) : Int) l1 S m li nb (2 ^ K)) (rnd ((2 ^ K : Nat) : Int))) a).2) ((fdT (chkB ((m : Nat) : Int) l1 l2 l3) l2 l3 (bnet true K (mpD (chkB ((m : Nat) : Int) l1 l2 l3) ((m : Nat) : Int) l1 S m li nb (2 ^ K)) (rnd ((2 ^ K : Nat) : Int))) a).1.getD a []))) x, .agg #[.bool ((stepC (chkB ((m : Nat) : Int) l1 l2 l3) l2 l3 ((fdT (chkB ((m : Nat) : Int) l1 l2 l3) l2 l3 (bnet true K (mpD (chkB ((m : Nat) : Int) l1 l2 l3) ((m : Nat) : Int) l1 S m li nb (2 ^ K)) (rnd ((2 ^ K : Nat) : Int))) a).2) ((fdT (chkB ((m : Nat) : Int) l1 l2 l3) l2 l3 (bnet true K (mpD (chkB ((m : Nat) : Int) l1 l2 l3) ((m : Nat) : Int) l1 S m li nb (2 ^ K)) (rnd ((2 ^ K : Nat) : Int))) a).1.getD a [])).dead), .int .i64 (((stepC (chkB ((m : Nat) : Int) l1 l2 l3) l2 l3 ((fdT (chkB ((m : Nat) : Int) l1 l2 l3) l2 l3 (bnet true K (mpD (chkB ((m : Nat) : Int) l1 l2 l3) ((m : Nat) : Int) l1 S m li nb (2 ^ K)) (rnd ((2 ^ K : Nat) : Int))) a).2) ((fdT (chkB ((m : Nat) : Int) l1 l2 l3) l2 l3 (bnet true K (mpD (chkB ((m : Nat) : Int) l1 l2 l3) ((m : Nat) : Int) l1 S m li nb (2 ^ K)) (rnd ((2 ^ K : Nat) : Int))) a).1.getD a [])).key).toInt), .int .i64 (((stepC (chkB ((m : Nat) : Int) l1 l2 l3) l2 l3 ((fdT (chkB ((m : Nat) : Int) l1 l2 l3) l2 l3 (bnet true K (mpD (chkB ((m : Nat) : Int) l1 l2 l3) ((m : Nat) : Int) l1 S m li nb (2 ^ K)) (rnd ((2 ^ K : Nat) : Int))) a).2) ((fdT (chkB ((m : Nat) : Int) l1 l2 l3) l2 l3 (bnet true K (mpD (chkB ((m : Nat) : Int) l1 l2 l3) ((m : Nat) : Int) l1 S m li nb (2 ^ K)) (rnd ((2 ^ K : Nat) : Int))) a).1.getD a [])).value).toInt), .int .i64 (((stepC (chkB ((m : Nat) : Int) l1 l2 l3) l2 l3 ((fdT (chkB ((m : Nat) : Int) l1 l2 l3) l2 l3 (bnet true K (mpD (chkB ((m : Nat) : Int) l1 l2 l3) ((m : Nat) : Int) l1 S m li nb (2 ^ K)) (rnd ((2 ^ K : Nat) : Int))) a).2) ((fdT (chkB ((m : Nat) : Int) l1 l2 l3) l2 l3 (bnet true K (mpD (chkB ((m : Nat) : Int) l1 l2 l3) ((m : Nat) : Int) l1 S m li nb (2 ^ K)) (rnd ((2 ^ K : Nat) : Int))) a).1.getD a [])).seq).toInt)]]) (A' := fun x => [slR recV 4 23 (msort false (stepO (chkB ((m : Nat) : Int) l1 l2 l3) l2 l3 ((fdT (chkB ((m : Nat) : Int) l1 l2 l3) l2 l3 (bnet true K (mpD (chkB ((m : Nat) : Int) l1 l2 l3) ((m : Nat) : Int) l1 S m li nb (2 ^ K)) (rnd ((2 ^ K : Nat) : Int))) a).2) ((fdT (chkB ((m : Nat) : Int) l1 l2 l3) l2 l3 (bnet true K (mpD (chkB ((m : Nat) : Int) l1 l2 l3) ((m : Nat) : Int) l1 S m li nb (2 ^ K)) (rnd ((2 ^ K : Nat) : Int))) a).1.getD a []))) x]) (C := fun _ => True) Try.call210 (ev3 rfl rfl rfl) (.p .h (.p .h (.p .h (.p .h (.p .h .nil))))) (fun w hs => folded_c ((m : Nat) : Int) a1 a2 a3 n1 c1 n2 c2 n3 c3 l1 l2 l3 ((fdT (chkB ((m : Nat) : Int) l1 l2 l3) l2 l3 (bnet true K (mpD (chkB ((m : Nat) : Int) l1 l2 l3) ((m : Nat) : Int) l1 S m li nb (2 ^ K)) (rnd ((2 ^ K : Nat) : Int))) a).2) ((hd1.getD a default).a) ((hd1.getD a default).n) ((hd1.getD a default).c) ((fdT (chkB ((m : Nat) : Int) l1 l2 l3) l2 l3 (bnet true K (mpD (chkB ((m : Nat) : Int) l1 l2 l3) ((m : Nat) : Int) l1 S m li nb (2 ^ K)) (rnd ((2 ^ K : Nat) : Int))) a).1.getD a []) w hn1 ((oldR hr1) w hs) (by omega) hn2 ((oldR hr2) w hs) (by omega) hn3 ((oldR hr3) w hs) (by omega) (hblk.trans (HN1 a (by omega)).symm) ((fam_rd (.t (.t .h)) (by omega)) w hs) (by omega)) ?_
    rintro ⟨a_15, c_16⟩ -
    refine ⟨.inr ⟨.p (.t .h) (.p (.t .h) (.p (.t (.t (.t .h))) .nil)), .p (.t (.t (.t (.t (.t .h))))) .nil⟩, ?_⟩
    refine anyT_takeF (i := 9) rfl (by kernel_rfl) (by kernel_rfl) (by kernel_rfl) (by kernel_rfl) (Yq.of (v := .tuple #[.slice a_15 ((msort false (stepO (chkB ((m : Nat) : Int) l1 l2 l3) l2 l3 ((fdT (chkB ((m : Nat) : Int) l1 l2 l3) l2 l3 (bnet true K (mpD (chkB ((m : Nat) : Int) l1 l2 l3) ((m : Nat) : Int) l1 S m li nb (2 ^ K)) (rnd ((2 ^ K : Nat) : Int))) a).2) ((fdT (chkB ((m : Nat) : Int) l1 l2 l3) l2 l3 (bnet true K (mpD (chkB ((m : Nat) : Int) l1 l2 l3) ((m : Nat) : Int) l1 S m li nb (2 ^ K)) (rnd ((2 ^ K : Nat) : Int))) a).1.getD a []))).length) c_16, .agg #[.bool ((stepC (chkB ((m : Nat) : Int) l1 l2 l3) l2 l3 ((fdT (chkB ((m : Nat) : Int) l1 l2 l3) l2 l3 (bnet true K (mpD (chkB ((m : Nat) : Int) l1 l2 l3) ((m : Nat) : Int) l1 S m li nb (2 ^ K)) (rnd ((2 ^ K : Nat) : Int))) a).2) ((fdT (chkB ((m : Nat) : Int) l1 l2 l3) l2 l3 (bnet true K (mpD (chkB ((m : Nat) : Int) l1 l2 l3) ((m : Nat) : Int) l1 S m li nb (2 ^ K)) (rnd ((2 ^ K : Nat) : Int))) a).1.getD a [])).dead), .int .i64 (((stepC (chkB ((m : Nat) : Int) l1 l2 l3) l2 l3 ((fdT (chkB ((m : Nat) : Int) l1 l2 l3) l2 l3 (bnet true K (mpD (chkB ((m : Nat) : Int) l1 l2 l3) ((m : Nat) : Int) l1 S m li nb (2 ^ K)) (rnd ((2 ^ K : Nat) : Int))) a).2) ((fdT (chkB ((m : Nat) : Int) l1 l2 l3) l2 l3 (bnet true K (mpD (chkB ((m : Nat) : Int) l1 l2 l3) ((m : Nat) : Int) l1 S m li nb (2 ^ K)) (rnd ((2 ^ K : Nat) : Int))) a).1.getD a [])).key).toInt), .int .i64 (((stepC (chkB ((m : Nat) : Int) l1 l2 l3) l2 l3 ((fdT (chkB ((m : Nat) : Int) l1 l2 l3) l2 l3 (bnet true K (mpD (chkB ((m : Nat) : Int) l1 l2 l3) ((m : Nat) : Int) l1 S m li nb (2 ^ K)) (rnd ((2 ^ K : Nat) : Int))) a).2) ((fdT (chkB ((m : Nat) : Int) l1 l2 l3) l2 l3 (bnet true K (mpD (chkB ((m : Nat) : Int) l1 l2 l3) ((m : Nat) : Int) l1 S m li nb (2 ^ K)) (rnd ((2 ^ K : Nat) : Int))) a).1.getD a [])).value).toInt), .int .i64 (((stepC (chkB ((m : Nat) : Int) l1 l2 l3) l2 l3 ((fdT (chkB ((m : Nat) : Int) l1 l2 l3) l2 l3 (bnet true K (mpD (chkB ((m : Nat) : Int) l1 l2 l3) ((m : Nat) : Int) l1 S m li nb (2 ^ K)) (rnd ((2 ^ K : Nat) : Int))) a).2) ((fdT (chkB ((m : Nat) : Int) l1 l2 l3) l2 l3 (bnet true K (mpD (chkB ((m : Nat) : Int) l1 l2 l3) ((m : Nat) : Int) l1 S m li nb (2 ^ K)) (rnd ((2 ^ K : Nat) : Int))) a).1.getD a [])).seq).toInt)]]) (y_move rfl) rfl) (.p (.t (.t (.t (.t (.t .h))))) .nil) ?_
    refine anyT_takeF (i := 10) rfl (by kernel_rfl) (by kernel_rfl) (by kernel_rfl) (by kernel_rfl) (Yq.of (v := .slice a_15 ((msort false (stepO (chkB ((m : Nat) : Int) l1 l2 l3) l2 l3 ((fdT (chkB ((m : Nat) : Int) l1 l2 l3) l2 l3 (bnet true K (mpD (chkB ((m : Nat) : Int) l1 l2 l3) ((m : Nat) : Int) l1 S m li nb (2 ^ K)) (rnd ((2 ^ K : Nat) : Int))) a).2) ((fdT (chkB ((m : Nat) : Int) l1 l2 l3) l2 l3 (bnet true K (mpD (chkB ((m : Nat) : Int) l1 l2 l3) ((m : Nat) : Int) l1 S m li nb (2 ^ K)) (rnd ((2 ^ K : Nat) : Int))) a).1.getD a []))).length) c_16) (y_extract (v := .slice a_15 ((msort false (stepO (chkB ((m : Nat) : Int) l1 l2 l3) l2 l3 ((fdT (chkB ((m : Nat) : Int) l1 l2 l3) l2 l3 (bnet true K (mpD (chkB ((m : Nat) : Int) l1 l2 l3) ((m : Nat) : Int) l1 S m li nb (2 ^ K)) (rnd ((2 ^ K : Nat) : Int))) a).2) ((fdT (chkB ((m : Nat) : Int) l1 l2 l3) l2 l3 (bnet true K (mpD (chkB ((m : Nat) : Int) l1 l2 l3) ((m : Nat) : Int) l1 S m li nb (2 ^ K)) (rnd ((2 ^ K : Nat) : Int))) a).1.getD a []))).length) c_16) rfl rfl) rfl) (.p (.t (.t (.t (.t (.t .h))))) .nil) ?_
    refine anyT_takeF (i := 11) rfl (by kernel_rfl) (by kernel_rfl) (by kernel_rfl) (by kernel_rfl) (Yq.of (v := .agg #[.bool ((stepC (chkB ((m : Nat) : Int) l1 l2 l3) l2 l3 ((fdT (chkB ((m : Nat) : Int) l1 l2 l3) l2 l3 (bnet true K (mpD (chkB ((m : Nat) : Int) l1 l2 l3) ((m : Nat) : Int) l1 S m li nb (2 ^ K)) (rnd ((2 ^ K : Nat) : Int))) a).2) ((fdT (chkB ((m : Nat) : Int) l1 l2 l3) l2 l3 (bnet true K (mpD (chkB ((m : Nat) : Int) l1 l2 l3) ((m : Nat) : Int) l1 S m li nb (2 ^ K)) (rnd ((2 ^ K : Nat) : Int))) a).1.getD a [])).dead), .int .i64 (((stepC (chkB ((m : Nat) : Int) l1 l2 l3) l2 l3 ((fdT (chkB ((m : Nat) : Int) l1 l2 l3) l2 l3 (bnet true K (mpD (chkB ((m : Nat) : Int) l1 l2 l3) ((m : Nat) : Int) l1 S m li nb (2 ^ K)) (rnd ((2 ^ K : Nat) : Int))) a).2) ((fdT (chkB ((m : Nat) : Int) l1 l2 l3) l2 l3 (bnet true K (mpD (chkB ((m : Nat) : Int) l1 l2 l3) ((m : Nat) : Int) l1 S m li nb (2 ^ K)) (rnd ((2 ^ K : Nat) : Int))) a).1.getD a [])).key).toInt), .int .i64 (((stepC (chkB ((m : Nat) : Int) l1 l2 l3) l2 l3 ((fdT (chkB ((m : Nat) : Int) l1 l2 l3) l2 l3 (bnet true K (mpD (chkB ((m : Nat) : Int) l1 l2 l3) ((m : Nat) : Int) l1 S m li nb (2 ^ K)) (rnd ((2 ^ K : Nat) : Int))) a).2) ((fdT (chkB ((m : Nat) : Int) l1 l2 l3) l2 l3 (bnet true K (mpD (chkB ((m : Nat) : Int) l1 l2 l3) ((m : Nat) : Int) l1 S m li nb (2 ^ K)) (rnd ((2 ^ K : Nat) : Int))) a).1.getD a [])).value).toInt), .int .i64 (((stepC (chkB ((m : Nat) : Int) l1 l2 l3) l2 l3 ((fdT (chkB ((m : Nat) : Int) l1 l2 l3) l2 l3 (bnet true K (mpD (chkB ((m : Nat) : Int) l1 l2 l3) ((m : Nat) : Int) l1 S m li nb (2 ^ K)) (rnd ((2 ^ K : Nat) : Int))) a).2) ((fdT (chkB ((m : Nat) : Int) l1 l2 l3) l2 l3 (bnet true K (mpD (chkB ((m : Nat) : Int) l1 l2 l3) ((m : Nat) : Int) l1 S m li nb (2 ^ K)) (rnd ((2 ^ K : Nat) : Int))) a).1.getD a [])).seq).toInt)]) (y_extract (v := .agg #[.bool ((stepC (chkB ((m : Nat) : Int) l1 l2 l3) l2 l3 ((fdT (chkB ((m : Nat) : Int) l1 l2 l3) l2 l3 (bnet true K (mpD (chkB ((m : Nat) : Int) l1 l2 l3) ((m : Nat) : Int) l1 S m li nb (2 ^ K)) (rnd ((2 ^ K : Nat) : Int))) a).2) ((fdT (chkB ((m : Nat) : Int) l1 l2 l3) l2 l3 (bnet true K (mpD (chkB ((m : Nat) : Int) l1 l2 l3) ((m : Nat) : Int) l1 S m li nb (2 ^ K)) (rnd ((2 ^ K : Nat) : Int))) a).1.getD a [])).dead), .int .i64 (((stepC (chkB ((m : Nat) : Int) l1 l2 l3) l2 l3 ((fdT (chkB ((m : Nat) : Int) l1 l2 l3) l2 l3 (bnet true K (mpD (chkB ((m : Nat) : Int) l1 l2 l3) ((m : Nat) : Int) l1 S m li nb (2 ^ K)) (rnd ((2 ^ K : Nat) : Int))) a).2) ((fdT (chkB ((m : Nat) : Int) l1 l2 l3) l2 l3 (bnet true K (mpD (chkB ((m : Nat) : Int) l1 l2 l3) ((m : Nat) : Int) l1 S m li nb (2 ^ K)) (rnd ((2 ^ K : Nat) : Int))) a).1.getD a [])).key).toInt), .int .i64 (((stepC (chkB ((m : Nat) : Int) l1 l2 l3) l2 l3 ((fdT (chkB ((m : Nat) : Int) l1 l2 l3) l2 l3 (bnet true K (mpD (chkB ((m : Nat) : Int) l1 l2 l3) ((m : Nat) : Int) l1 S m li nb (2 ^ K)) (rnd ((2 ^ K : Nat) : Int))) a).2) ((fdT (chkB ((m : Nat) : Int) l1 l2 l3) l2 l3 (bnet true K (mpD (chkB ((m : Nat) : Int) l1 l2 l3) ((m : Nat) : Int) l1 S m li nb (2 ^ K)) (rnd ((2 ^ K : Nat) : Int))) a).1.getD a [])).value).toInt), .int .i64 (((stepC (chkB ((m : Nat) : Int) l1 l2 l3) l2 l3 ((fdT (chkB ((m : Nat) : Int) l1 l2 l3) l2 l3 (bnet true K (mpD (chkB ((m : Nat) : Int) l1 l2 l3) ((m : Nat) : Int) l1 S m li nb (2 ^ K)) (rnd ((2 ^ K : Nat) : Int))) a).2) ((fdT (chkB ((m : Nat) : Int) l1 l2 l3) l2 l3 (bnet true K (mpD (chkB ((m : Nat) : Int) l1 l2 l3) ((m : Nat) : Int) l1 S m li nb (2 ^ K)) (rnd ((2 ^ K : Nat) : Int))) a).1.getD a [])).seq).toInt)]) rfl rfl) rfl) (.p (.t (.t (.t (.t (.t .h))))) .nil) ?_
    refine anyT_take (i := 12) rfl (by kernel_rfl) (by kernel_rfl) (by kernel_rfl) (by kernel_rfl) (Yq.of (v := .pointer (some ⟨aB a_3, aO a_3 + a * 1, none⟩)) (y_idx (o := a * 1) rfl rfl Try.underlying80 Try.sizeOf69 (oslR (.t .h)) ((fl_len slhV_len _).trans (by first | omega | (simp only [List.length_set, List.length_take, List.length_drop]; done) | (simp only [List.length_set, List.length_take, List.length_drop]; omega))) (by decide) (by omega) (by omega) (by omega)) rfl) (.p (.t .h) (.p (.t .h) (.p (.t (.t (.t .h))) .nil))) (.p (.t (.t (.t (.t (.t .h))))) .nil) ?_
    refine anyT_all (rs := [13]) (by kernel_rfl) (by simp) ?_
    intro i hi; obtain rfl := List.mem_singleton.1 hi; clear hi
    refine opS_0 rfl rfl ?_
    refine OpE.ent (fam_set1 (SlH.mk a_15 ((msort false (stepO (chkB ((m : Nat) : Int) l1 l2 l3) l2 l3 ((fdT (chkB ((m : Nat) : Int) l1 l2 l3) l2 l3 (bnet true K (mpD (chkB ((m : Nat) : Int) l1 l2 l3) ((m : Nat) : Int) l1 S m li nb (2 ^ K)) (rnd ((2 ^ K : Nat) : Int))) a).2) ((fdT (chkB ((m : Nat) : Int) l1 l2 l3) l2 l3 (bnet true K (mpD (chkB ((m : Nat) : Int) l1 l2 l3) ((m : Nat) : Int) l1 S m li nb (2 ^ K)) (rnd ((2 ^ K : Nat) : Int))) a).1.getD a []))).length) c_16) .h (.t (.t .h)) (i := a) (by omega) (by omega)) ?_
    refine e_storeL (enc := slhV) (xs := hd1) (y := (SlH.mk a_15 ((msort false (stepO (chkB ((m : Nat) : Int) l1 l2 l3) l2 l3 ((fdT (chkB ((m : Nat) : Int) l1 l2 l3) l2 l3 (bnet true K (mpD (chkB ((m : Nat) : Int) l1 l2 l3) ((m : Nat) : Int) l1 S m li nb (2 ^ K)) (rnd ((2 ^ K : Nat) : Int))) a).2) ((fdT (chkB ((m : Nat) : Int) l1 l2 l3) l2 l3 (bnet true K (mpD (chkB ((m : Nat) : Int) l1 l2 l3) ((m : Nat) : Int) l1 S m li nb (2 ^ K)) (rnd ((2 ^ K : Nat) : Int))) a).1.getD a []))).length) c_16)) slhV_len slhV_one (by decide) rfl rfl rfl Try.sizeOf69 (.t (.t .h)) (by (try simp only [List.length_set]); omega) ?_
    refine ⟨.inl ⟨by simp, .p (.t (.t (.t (.t .h)))) .nil⟩, ?_⟩
    refine anyT_all (rs := [14]) (by kernel_rfl) (by simp) ?_
    intro i hi; obtain rfl := List.mem_singleton.1 hi; clear hi
    refine opS_0 rfl rfl ?_
    refine e_store (vs := [.bool ((stepC (chkB ((m : Nat) : Int) l1 l2 l3) l2 l3 ((fdT (chkB ((m : Nat) : Int) l1 l2 l3) l2 l3 (bnet true K (mpD (chkB ((m : Nat) : Int) l1 l2 l3) ((m : Nat) : Int) l1 S m li nb (2 ^ K)) (rnd ((2 ^ K : Nat) : Int))) a).2) ((fdT (chkB ((m : Nat) : Int) l1 l2 l3) l2 l3 (bnet true K (mpD (chkB ((m : Nat) : Int) l1 l2 l3) ((m : Nat) : Int) l1 S m li nb (2 ^ K)) (rnd ((2 ^ K : Nat) : Int))) a).1.getD a [])).dead), .int .i64 (((stepC (chkB ((m : Nat) : Int) l1 l2 l3) l2 l3 ((fdT (chkB ((m : Nat) : Int) l1 l2 l3) l2 l3 (bnet true K (mpD (chkB ((m : Nat) : Int) l1 l2 l3) ((m : Nat) : Int) l1 S m li nb (2 ^ K)) (rnd ((2 ^ K : Nat) : Int))) a).2) ((fdT (chkB ((m : Nat) : Int) l1 l2 l3) l2 l3 (bnet true K (mpD (chkB ((m : Nat) : Int) l1 l2 l3) ((m : Nat) : Int) l1 S m li nb (2 ^ K)) (rnd ((2 ^ K : Nat) : Int))) a).1.getD a [])).key).toInt), .int .i64 (((stepC (chkB ((m : Nat) : Int) l1 l2 l3) l2 l3 ((fdT (chkB ((m : Nat) : Int) l1 l2 l3) l2 l3 (bnet true K (mpD (chkB ((m : Nat) : Int) l1 l2 l3) ((m : Nat) : Int) l1 S m li nb (2 ^ K)) (rnd ((2 ^ K : Nat) : Int))) a).2) ((fdT (chkB ((m : Nat) : Int) l1 l2 l3) l2 l3 (bnet true K (mpD (chkB ((m : Nat) : Int) l1 l2 l3) ((m : Nat) : Int) l1 S m li nb (2 ^ K)) (rnd ((2 ^ K : Nat) : Int))) a).1.getD a [])).value).toInt), .int .i64 (((stepC (chkB ((m : Nat) : Int) l1 l2 l3) l2 l3 ((fdT (chkB ((m : Nat) : Int) l1 l2 l3) l2 l3 (bnet true K (mpD (chkB ((m : Nat) : Int) l1 l2 l3) ((m : Nat) : Int) l1 S m li nb (2 ^ K)) (rnd ((2 ^ K : Nat) : Int))) a).2) ((fdT (chkB ((m : Nat) : Int) l1 l2 l3) l2 l3 (bnet true K (mpD (chkB ((m : Nat) : Int) l1 l2 l3) ((m : Nat) : Int) l1 S m li nb (2 ^ K)) (rnd ((2 ^ K : Nat) : Int))) a).1.getD a [])).seq).toInt)]) (l' := [.bool ((stepC (chkB ((m : Nat) : Int) l1 l2 l3) l2 l3 ((fdT (chkB ((m : Nat) : Int) l1 l2 l3) l2 l3 (bnet true K (mpD (chkB ((m : Nat) : Int) l1 l2 l3) ((m : Nat) : Int) l1 S m li nb (2 ^ K)) (rnd ((2 ^ K : Nat) : Int))) a).2) ((fdT (chkB ((m : Nat) : Int) l1 l2 l3) l2 l3 (bnet true K (mpD (chkB ((m : Nat) : Int) l1 l2 l3) ((m : Nat) : Int) l1 S m li nb (2 ^ K)) (rnd ((2 ^ K : Nat) : Int))) a).1.getD a [])).dead), .int .i64 (((stepC (chkB ((m : Nat) : Int) l1 l2 l3) l2 l3 ((fdT (chkB ((m : Nat) : Int) l1 l2 l3) l2 l3 (bnet true K (mpD (chkB ((m : Nat) : Int) l1 l2 l3) ((m : Nat) : Int) l1 S m li nb (2 ^ K)) (rnd ((2 ^ K : Nat) : Int))) a).2) ((fdT (chkB ((m : Nat) : Int) l1 l2 l3) l2 l3 (bnet true K (mpD (chkB ((m : Nat) : Int) l1 l2 l3) ((m : Nat) : Int) l1 S m li nb (2 ^ K)) (rnd ((2 ^ K : Nat) : Int))) a).1.getD a [])).key).toInt), .int .i64 (((stepC (chkB ((m : Nat) : Int) l1 l2 l3) l2 l3 ((fdT (chkB ((m : Nat) : Int) l1 l2 l3) l2 l3 (bnet true K (mpD (chkB ((m : Nat) : Int) l1 l2 l3) ((m : Nat) : Int) l1 S m li nb (2 ^ K)) (rnd ((2 ^ K : Nat) : Int))) a).2) ((fdT (chkB ((m : Nat) : Int) l1 l2 l3) l2 l3 (bnet true K (mpD (chkB ((m : Nat) : Int) l1 l2 l3) ((m : Nat) : Int) l1 S m li nb (2 ^ K)) (rnd ((2 ^ K : Nat) : Int))) a).1.getD a [])).value).toInt), .int .i64 (((stepC (chkB ((m : Nat) : Int) l1 l2 l3) l2 l3 ((fdT (chkB ((m : Nat) : Int) l1 l2 l3) l2 l3 (bnet true K (mpD (chkB ((m : Nat) : Int) l1 l2 l3) ((m : Nat) : Int) l1 S m li nb (2 ^ K)) (rnd ((2 ^ K : Nat) : Int))) a).2) ((fdT (chkB ((m : Nat) : Int) l1 l2 l3) l2 l3 (bnet true K (mpD (chkB ((m : Nat) : Int) l1 l2 l3) ((m : Nat) : Int) l1 S m li nb (2 ^ K)) (rnd ((2 ^ K : Nat) : Int))) a).1.getD a [])).seq).toInt)]) h16_13 rfl rfl rfl Try.sizeOf23 (.t (.t .h)) (Nat.le_of_ble_eq_true rfl) rfl ?_
    refine ⟨.inl ⟨by simp, .p (.t (.t (.t (.t .h)))) .nil⟩, ?_⟩
    refine anyT_done (by kernel_rfl) ?_
    refine blockS_n ?_
    refine thenS_n ?_
    refine wpS_region ?_
    refine s_y (v := .int .i64 (((a + 1) : Nat) : Int)) (y_add (a := ((a : Nat) : Int)) (b := 1) h69_13 rfl (wI (by omega) (by omega) (by omega))) rfl ?_
    refine s_y (v := .int .i64 (((a + 1) : Nat) : Int)) (y_move rfl) rfl ?_
    refine wpL_nil ?_
    refine thenS_n ?_
    exact ⟨_, by omega, ⟨(a + 1), (hd1.set a (SlH.mk a_15 ((msort false (stepO (chkB ((m : Nat) : Int) l1 l2 l3) l2 l3 ((fdT (chkB ((m : Nat) : Int) l1 l2 l3) l2 l3 (bnet true K (mpD (chkB ((m : Nat) : Int) l1 l2 l3) ((m : Nat) : Int) l1 S m li nb (2 ^ K)) (rnd ((2 ^ K : Nat) : Int))) a).2) ((fdT (chkB ((m : Nat) : Int) l1 l2 l3) l2 l3 (bnet true K (mpD (chkB ((m : Nat) : Int) l1 l2 l3) ((m : Nat) : Int) l1 S m li nb (2 ^ K)) (rnd ((2 ^ K : Nat) : Int))) a).1.getD a []))).length) c_16)), rfl, by omega, (by rw [List.length_set]; assumption), (hn_set1 (by assumption) (by omega) HN1 (by show (msort false _).length = S; rw [msort_len, stepO_len hck]; exact hblk)), rfl, h3_13, h4_13, h13_13, h14_13, h16_13, h68_13, rfl, .p .h (.p .h (.p .h (.p .h (.p .h .nil))))⟩⟩
   ·
    have p14 := of_decide_eq_false b14
    refine wpS_exit ?_
    refine thenS_x ?_
    refine thenS_x ?_
    refine blockS_h ?_
    refine thenS_n ?_
    refine wpS_seq ?_
    refine wpS_seq ?_
    refine wpS_region ?_
    refine s_y (v := .int .i64 ((t : Nat) : Int)) (y_move h3_13) rfl ?_
    refine s_y (v := .int .i64 (((t - 2) : Nat) : Int)) (y_sub (a := ((t : Nat) : Int)) (b := 2) rfl rfl (wI (by omega) (by omega) (by omega))) rfl ?_
    refine s_y (v := .int .i64 (((rnd (((2 ^ K) : Nat) : Int)) : Nat) : Int)) (y_move h13_13) rfl ?_
    refine s_y (v := .int .i64 ((((t - 2) - (rnd (((2 ^ K) : Nat) : Int))) : Nat) : Int)) (y_sub (a := (((t - 2) : Nat) : Int)) (b := (((rnd (((2 ^ K) : Nat) : Int)) : Nat) : Int)) rfl rfl (wI (by omega) (by omega) (by omega))) rfl ?_
    refine s_y (v := .int .i64 0) (y_move rfl) rfl ?_
    refine wpL_nil ?_
    refine thenS_n ?_
    refine wpS_block ?_
    have hae : a = 2 ^ K := by omega
    subst hae
    refine wpS_loop (fun mez ds σ L => ∃ p : Nat, ∃ hd3 : List SlH, mez = (t - 2 - (rnd ((2 ^ K : Nat) : Int))) - p ∧ (p ≤ t - 2 - (rnd ((2 ^ K : Nat) : Int))) ∧ (hd3.length = 2 ^ K) ∧ (∀ i, i < 2 ^ K → (hd3.getD i default).n = S) ∧ ds = [] ∧ σ 14 = .slice a_3 (2 ^ K) c_4 ∧ σ 89 = .int .i64 ((((t - 2) - (rnd (((2 ^ K) : Nat) : Int))) : Nat) : Int) ∧ σ 90 = .int .i64 ((p : Nat) : Int) ∧ Ent L [osl a_3 c_4 (2 ^ K) 1 69 (hd3.flatMap slhV), fam hd3 (bnet false K (st2 (chkB ((m : Nat) : Int) l1 l2 l3) l2 l3 K (mpD (chkB ((m : Nat) : Int) l1 l2 l3) ((m : Nat) : Int) l1 S m li nb (2 ^ K))) p), cel b_2 53 [.int .i64 ((R : Nat) : Int), .int .i64 ((m : Nat) : Int), .int .i64 ((S : Nat) : Int), .int .i64 W], cel b_1 84 [.int .i64 ((m : Nat) : Int), .slice a1 n1 c1, .slice a2 n2 c2, .slice a3 n3 c3]]) (m0 := (t - 2 - (rnd ((2 ^ K : Nat) : Int))) - 0) ⟨0, hd1, rfl, by omega, (by assumption), (by assumption), rfl, h14_13, rfl, rfl, .p (.t .h) (.p (.t .h) (.p (.t .h) (.p (.t .h) .nil)))⟩ ?_
    rintro mez ds σ L ⟨p, hd3, hm_18, hf0_18, hf1_18, hf2_18, rfl, h14_18, h89_18, h90_18, hE_18⟩
    refine wpS_ent hE_18 ?_; clear hE_18
    have hbn := (hI.inv3 p (by omega)).1
    refine wpS_seq ?_
    refine wpS_region ?_
    refine s_y (v := .bool (decide (p < ((t - 2) - (rnd (((2 ^ K) : Nat) : Int)))))) (y_lss (a := ((p : Nat) : Int)) (b := ((((t - 2) - (rnd (((2 ^ K) : Nat) : Int))) : Nat) : Int)) (c := decide (p < ((t - 2) - (rnd (((2 ^ K) : Nat) : Int))))) h90_18 h89_18 (decide_eq_decide.2 (by omega))) rfl ?_
    refine wpL_nil ?_
    refine thenS_n ?_
    refine wpS_seq ?_
    refine wpS_cond (t := decide (p < ((t - 2) - (rnd (((2 ^ K) : Nat) : Int))))) rfl (fun b19 => ?_) (fun b19 => ?_)
    ·
     have p19 := of_decide_eq_true b19
     refine wpS_skip ?_
     refine thenS_n ?_
     refine wpS_seq ?_
     refine wpS_block ?_
     refine wpS_seq ?_
     refine wpS_region ?_
     refine s_y (v := .int .i64 ((p : Nat) : Int)) (y_move h90_18) rfl ?_
     refine s_y (v := .int .i64 ((p : Nat) : Int)) (y_assign rfl) rfl ?_
     refine wpL_nil ?_
     refine thenS_n ?_
     refine wpS_region ?_
     refine s_y (v := .slice a_3 (2 ^ K) c_4) (y_move h14_18) rfl ?_
     refine s_y (v := .int .i64 ((p : Nat) : Int)) (y_move rfl) rfl ?_
     refine s_e rfl ?_
     refine e_call (f := 209) (args := #[.slice a_3 (2 ^ K) c_4, .int .i64 ((p : Nat) : Int), .bool false]) (X := List SlH) (A := [osl a_3 c_4 (2 ^ K) 1 69 (hd3.flatMap slhV), fam hd3 (bnet false K (st2 (chkB ((m : Nat) : Int) l1 l2 l3) l2 l3 K (mpD (chkB ((m : Nat) : Int) l1 l2 l3) ((m : Nat) : Int) l1 S m li nb (2 ^ K))) p)]) (M := [cel b_2 53 [.int .i64 ((R : Nat) : Int), .int .i64 ((m : Nat) : Int), .int .i64 ((S : Nat) : Int), .int .i64 W], cel b_1 84 [.int .i64 ((m : Nat) : Int), .slice a1 n1 c1, .slice a2 n2 c2, .slice a3 n3 c3]]) (V := fun _ => .tuple #[]) (A' := fun x => [osl a_3 c_4 (2 ^ K) 1 69 (x.flatMap slhV), fam x (bcmp false K p (bnet false K (st2 (chkB ((m : Nat) : Int) l1 l2 l3) l2 l3 K (mpD (chkB ((m : Nat) : Int) l1 l2 l3) ((m : Nat) : Int) l1 S m li nb (2 ^ K))) p) (frs ((2 ^ K : Nat) : Int) ((p : Nat) : Int)).length)]) (C := fun x => x.length = 2 ^ K ∧ ∀ k, k < 2 ^ K → (x.getD k default).n = S) Try.call209 (ev3 rfl rfl rfl) (.p .h (.p .h (.p .h (.p .h .nil)))) (fun w hs => (round_cc a_3 c_4 hd3 (bnet false K (st2 (chkB ((m : Nat) : Int) l1 l2 l3) l2 l3 K (mpD (chkB ((m : Nat) : Int) l1 l2 l3) ((m : Nat) : Int) l1 S m li nb (2 ^ K))) p) K p S false w (by omega) (by omega) (by assumption) (by assumption) (by first | exact hI.inv1 _ (by omega) | exact hI.inv3 _ (by omega)) (by omega) (SH.lend hs)).mono (fun e w2 hx => hx.elim fun x hx => ⟨x, hx.1, hx.2.1, hx.2.2⟩)) ?_
     rintro h_20 ⟨hR21l, hR21n⟩
     replace hR21l : h_20.length = 2 ^ K := hR21l
     replace hR21n : ∀ k, k < 2 ^ K → (h_20.getD k default).n = S := hR21n
     refine wpL_nil ?_
     refine blockS_n ?_
     refine thenS_n ?_
     refine wpS_region ?_
     refine s_y (v := .int .i64 (((p + 1) : Nat) : Int)) (y_add (a := ((p : Nat) : Int)) (b := 1) h90_18 rfl (wI (by omega) (by omega) (by omega))) rfl ?_
     refine s_y (v := .int .i64 (((p + 1) : Nat) : Int)) (y_move rfl) rfl ?_
     refine wpL_nil ?_
     refine thenS_n ?_
     rw [bnet_next (by omega) (by omega)]
     exact ⟨_, by omega, ⟨(p + 1), h_20, rfl, by omega, (by assumption), (by assumption), rfl, h14_18, h89_18, rfl, .p .h (.p .h (.p .h (.p .h .nil)))⟩⟩
    ·
     have p19 := of_decide_eq_false b19
     refine wpS_exit ?_
     refine thenS_x ?_
     refine thenS_x ?_
     refine blockS_h ?_
     refine thenS_n ?_
     refine wpS_seq ?_
     refine wpS_region ?_
     refine s_y (v := .slice a_3 (2 ^ K) c_4) (y_move h14_18) rfl ?_
     refine s_y (v := .slice a_3 (2 ^ K) c_4) (y_assign rfl) rfl ?_
     refine s_y (v := .int .i64 0) (y_assign rfl) rfl ?_
     refine wpL_nil ?_
     refine thenS_n ?_
     refine wpS_ret ?_
     refine fin2 (M := [osl a_3 c_4 (2 ^ K) 1 69 (hd3.flatMap slhV), fam hd3 (bnet false K (st2 (chkB ((m : Nat) : Int) l1 l2 l3) l2 l3 K (mpD (chkB ((m : Nat) : Int) l1 l2 l3) ((m : Nat) : Int) l1 S m li nb (2 ^ K))) p)]) (.inr rfl) (.p .h (.p .h .nil)) Try.results136 (rvT (v := .slice a_3 (2 ^ K) c_4) rfl) (rvT (v := .int .i64 0) rfl) ?_
     have e2 := stg_hi (b := (chkB ((m : Nat) : Int) l1 l2 l3)) (f := l2) (g := l3) (K := K) (M := (mpD (chkB ((m : Nat) : Int) l1 l2 l3) ((m : Nat) : Int) l1 S m li nb (2 ^ K))) (t := t) (q := p) (by assumption) (by omega)
     exact fun w' hs => ⟨((a_3, c_4), hd3), rfl, by rw [← e2]; exact hs, by assumption, by assumption⟩
theorem runP_c (a1 a2 a3 : Option Addr) (n1 c1 n2 c2 n3 c3 : Nat) (l1 l2 l3 : List Opc) (R m S : Nat) (W : Int) (nb K : Nat) (ga : Option Addr) (gc : Nat) (li : List Pr) (w : World) (hj : JP R m S W nb K) (hn1 : l1.length = n1) (hr1 : Rds w a1 (l1.flatMap opcV)) (hb1 : n1 ≤ 1000000) (hn2 : l2.length = n2) (hr2 : Rds w a2 (l2.flatMap opcV)) (hb2 : n2 ≤ 1000000) (hn3 : l3.length = n3) (hr3 : Rds w a3 (l3.flatMap opcV)) (hb3 : n3 ≤ 1000000) (hck : (chkB ((m : Nat) : Int) l1 l2 l3) = true) (hl : li.length = R) (hr : Rds w ga (li.flatMap prV)) : Makes Try.prog 138 #[.agg #[.int .i64 ((m : Nat) : Int), .slice a1 n1 c1, .slice a2 n2 c2, .slice a3 n3 c3], .agg #[.int .i64 ((R : Nat) : Int), .int .i64 ((m : Nat) : Int), .int .i64 ((S : Nat) : Int), .int .i64 W], .slice ga R gc] w [] (X := Option Addr × Nat) (fun x => .tuple #[slV (runD (chkB ((m : Nat) : Int) l1 l2 l3) l2 l3 K (mpD (chkB ((m : Nat) : Int) l1 l2 l3) ((m : Nat) : Int) l1 S m li nb (2 ^ K))) x, .int .i64 0]) (fun x => [slR prV 2 89 (runD (chkB ((m : Nat) : Int) l1 l2 l3) l2 l3 K (mpD (chkB ((m : Nat) : Int) l1 l2 l3) ((m : Nat) : Int) l1 S m li nb (2 ^ K))) x]) (fun _ => True) := by
 refine calls_S (n := 33) (σ0 := (upd (upd (upd fr0 0 (.agg #[.int .i64 ((m : Nat) : Int), .slice a1 n1 c1, .slice a2 n2 c2, .slice a3 n3 c3])) 1 (.agg #[.int .i64 ((R : Nat) : Int), .int .i64 ((m : Nat) : Int), .int .i64 ((S : Nat) : Int), .int .i64 W])) 2 (.slice ga R gc))) (D := []) (A := []) Try.func138 rfl Try.ntmps138 rfl (a3_fr _ _ _) (SH.start w) ?_
 obtain ⟨hjok, hjb, hjs, hK5, ⟨hR1, hR2⟩, ⟨hm1, hm2⟩, ⟨hS1, hS2⟩, hnm, hrs, hrs2, ⟨hnb1, hnb2⟩⟩ := hj
 have hj : JP R m S W nb K := ⟨hjok, hjb, hjs, hK5, ⟨hR1, hR2⟩, ⟨hm1, hm2⟩, ⟨hS1, hS2⟩, hnm, hrs, hrs2, ⟨hnb1, hnb2⟩⟩
 have hp2 : 2 ^ K ≤ 32 := Nat.pow_le_pow_right (n := 2) (by decide) hK5
 have hp1 := Nat.two_pow_pos K
 have hI := jpM (li := li) hj hck
 have hrt : (rnd ((2 ^ K : Nat) : Int)) ≤ 21 := rnd21 (by omega)
 have hsl := stg_len hI (t := 2 + 2 * (rnd ((2 ^ K : Nat) : Int))) (by omega)
 have hsf := stg_flat hI (t := 2 + 2 * (rnd ((2 ^ K : Nat) : Int))) (by omega)
 have hks : 2 ^ K * S ≤ 32 * 8 := Nat.mul_le_mul hp2 (by omega)
 refine wpS_seq ?_
 refine wpS_region ?_
 refine s_e rfl ?_
 refine e_box (v := .agg #[.int .i64 ((m : Nat) : Int), .slice a1 n1 c1, .slice a2 n2 c2, .slice a3 n3 c3]) (l := [.int .i64 ((m : Nat) : Int), .slice a1 n1 c1, .slice a2 n2 c2, .slice a3 n3 c3]) rfl rfl ?_
 intro b_1
 refine s_e rfl ?_
 refine e_box (v := .agg #[.int .i64 ((R : Nat) : Int), .int .i64 ((m : Nat) : Int), .int .i64 ((S : Nat) : Int), .int .i64 W]) (l := [.int .i64 ((R : Nat) : Int), .int .i64 ((m : Nat) : Int), .int .i64 ((S : Nat) : Int), .int .i64 W]) rfl rfl ?_
 intro b_2
 refine s_y (v := .slice none 0 0) (y_assign rfl) rfl ?_
 refine s_y (v := .int .i64 0) (y_assign rfl) rfl ?_
 refine wpL_nil ?_
 refine thenS_n ?_
 refine wpS_seq ?_
 refine wpS_region ?_
 refine s_y (v := .agg #[.int .i64 ((R : Nat) : Int), .int .i64 ((m : Nat) : Int), .int .i64 ((S : Nat) : Int), .int .i64 W]) (y_loadN rfl Try.isAgg53 Try.sizeOf53 (ownN .h rfl)) rfl ?_
 refine s_y (v := .tuple #[.int .i64 ((nb : Nat) : Int), .int .i64 (((2 ^ K) : Nat) : Int)]) (y_call (args := #[.agg #[.int .i64 ((R : Nat) : Int), .int .i64 ((m : Nat) : Int), .int .i64 ((S : Nat) : Int), .int .i64 W]]) Try.call135 (ev1 rfl) (fun w hs => blocksJ_c hj w)) rfl ?_
 refine s_y (v := .tuple #[.int .i64 ((nb : Nat) : Int), .int .i64 (((2 ^ K) : Nat) : Int)]) (y_move rfl) rfl ?_
 refine s_y (v := .int .i64 ((nb : Nat) : Int)) (y_extract rfl rfl) rfl ?_
 refine s_y (v := .int .i64 (((2 ^ K) : Nat) : Int)) (y_extract rfl rfl) rfl ?_
 refine s_y (v := .int .i64 ((nb : Nat) : Int)) (y_assign rfl) rfl ?_
 refine s_y (v := .int .i64 (((2 ^ K) : Nat) : Int)) (y_assign rfl) rfl ?_
 refine wpL_nil ?_
 refine thenS_n ?_
 refine wpS_seq ?_
 refine wpS_anyL [cel b_2 53 [.int .i64 ((R : Nat) : Int), .int .i64 ((m : Nat) : Int), .int .i64 ((S : Nat) : Int), .int .i64 W], cel b_1 84 [.int .i64 ((m : Nat) : Int), .slice a1 n1 c1, .slice a2 n2 c2, .slice a3 n3 c3]] [] (by kernel_rfl) ?_
 refine anyS_take (i := 0) rfl (by kernel_rfl) (by kernel_rfl) (by kernel_rfl) (by kernel_rfl) (Yq.of (v := .agg #[.int .i64 ((m : Nat) : Int), .slice a1 n1 c1, .slice a2 n2 c2, .slice a3 n3 c3]) (y_loadN rfl Try.isAgg84 Try.sizeOf84 (ownN (.t .h) rfl)) rfl) (.p .h (.p .h .nil)) ?_
 refine anyS_take (i := 1) rfl (by kernel_rfl) (by kernel_rfl) (by kernel_rfl) (by kernel_rfl) (Yq.of (v := .agg #[.int .i64 ((R : Nat) : Int), .int .i64 ((m : Nat) : Int), .int .i64 ((S : Nat) : Int), .int .i64 W]) (y_loadN rfl Try.isAgg53 Try.sizeOf53 (ownN .h rfl)) rfl) (.p .h (.p .h .nil)) ?_
 refine anyS_take (i := 2) rfl (by kernel_rfl) (by kernel_rfl) (by kernel_rfl) (by kernel_rfl) (Yq.of (v := .slice ga R gc) (y_move rfl) rfl) (.p .h (.p .h .nil)) ?_
 refine anyS_take (i := 3) rfl (by kernel_rfl) (by kernel_rfl) (by kernel_rfl) (by kernel_rfl) (Yq.of (v := .int .i64 (((2 ^ K) : Nat) : Int)) (y_move rfl) rfl) (.p .h (.p .h .nil)) ?_
 refine anyS_take (i := 4) rfl (by kernel_rfl) (by kernel_rfl) (by kernel_rfl) (by kernel_rfl) (Yq.of (v := .int .i64 (((rnd (((2 ^ K) : Nat) : Int)) : Nat) : Int)) (y_call (args := #[.int .i64 (((2 ^ K) : Nat) : Int)]) Try.call52 (ev1 rfl) (fun w hs => rounds_c (((2 ^ K) : Nat) : Int) (by omega) (by omega) w)) rfl) (.p .h (.p .h .nil)) ?_
 refine anyS_take (i := 5) rfl (by kernel_rfl) (by kernel_rfl) (by kernel_rfl) (by kernel_rfl) (Yq.of (v := .int .i64 (((2 * (rnd (((2 ^ K) : Nat) : Int))) : Nat) : Int)) (y_mul (a := 2) (b := (((rnd (((2 ^ K) : Nat) : Int)) : Nat) : Int)) rfl rfl (wI (by omega) (by omega) (by omega))) rfl) (.p .h (.p .h .nil)) ?_
 refine anyS_take (i := 6) rfl (by kernel_rfl) (by kernel_rfl) (by kernel_rfl) (by kernel_rfl) (Yq.of (v := .int .i64 (((2 + (2 * (rnd (((2 ^ K) : Nat) : Int)))) : Nat) : Int)) (y_add (a := 2) (b := (((2 * (rnd (((2 ^ K) : Nat) : Int))) : Nat) : Int)) rfl rfl (wI (by omega) (by omega) (by omega))) rfl) (.p .h (.p .h .nil)) ?_
 refine anyS_all (rs := [7]) (by kernel_rfl) (by simp) ?_
 intro i hi; obtain rfl := List.mem_singleton.1 hi; clear hi
 refine opS_0 rfl rfl ?_
 refine e_call (f := 136) (args := #[.agg #[.int .i64 ((m : Nat) : Int), .slice a1 n1 c1, .slice a2 n2 c2, .slice a3 n3 c3], .agg #[.int .i64 ((R : Nat) : Int), .int .i64 ((m : Nat) : Int), .int .i64 ((S : Nat) : Int), .int .i64 W], .slice ga R gc, .int .i64 (((2 + (2 * (rnd (((2 ^ K) : Nat) : Int)))) : Nat) : Int)]) (X := (Option Addr × Nat) × List SlH) (A := []) (M := [cel b_2 53 [.int .i64 ((R : Nat) : Int), .int .i64 ((m : Nat) : Int), .int .i64 ((S : Nat) : Int), .int .i64 W], cel b_1 84 [.int .i64 ((m : Nat) : Int), .slice a1 n1 c1, .slice a2 n2 c2, .slice a3 n3 c3]]) (V := fun x => .tuple #[.slice x.1.1 (2 ^ K) x.1.2, .int .i64 0]) (A' := fun x => [osl x.1.1 x.1.2 (2 ^ K) 1 69 (x.2.flatMap slhV), fam x.2 (stg3 (chkB ((m : Nat) : Int) l1 l2 l3) l2 l3 K (mpD (chkB ((m : Nat) : Int) l1 l2 l3) ((m : Nat) : Int) l1 S m li nb (2 ^ K)) (2 + (2 * (rnd (((2 ^ K) : Nat) : Int)))))]) (C := fun x => x.2.length = (2 ^ K) ∧ ∀ k, k < (2 ^ K) → (x.2.getD k default).n = S) Try.call136 (ev4 rfl rfl rfl rfl) (.p .h (.p .h .nil)) (fun w hs => stage_c a1 a2 a3 n1 c1 n2 c2 n3 c3 l1 l2 l3 R m S W nb K ga gc li (2 + (2 * (rnd (((2 ^ K) : Nat) : Int)))) w hj hn1 ((oldR hr1) w hs) (by omega) hn2 ((oldR hr2) w hs) (by omega) hn3 ((oldR hr3) w hs) (by omega) hck hl ((oldR hr) w hs) (by omega) (by omega)) ?_
 rintro ⟨⟨a_3, c_4⟩, h_5⟩ ⟨hH6l, hH6n⟩
 replace hH6l : h_5.length = (2 ^ K) := hH6l
 replace hH6n : ∀ k, k < (2 ^ K) → (h_5.getD k default).n = S := hH6n
 refine ⟨.inr (.p (.t (.t .h)) (.p (.t (.t .h)) .nil)), ?_⟩
 refine anyS_take (i := 8) rfl (by kernel_rfl) (by kernel_rfl) (by kernel_rfl) (by kernel_rfl) (Yq.of (v := .tuple #[.slice a_3 (2 ^ K) c_4, .int .i64 0]) (y_move rfl) rfl) (.p (.t (.t .h)) (.p (.t (.t .h)) .nil)) ?_
 refine anyS_take (i := 9) rfl (by kernel_rfl) (by kernel_rfl) (by kernel_rfl) (by kernel_rfl) (Yq.of (v := .slice a_3 (2 ^ K) c_4) (y_extract rfl rfl) rfl) (.p (.t (.t .h)) (.p (.t (.t .h)) .nil)) ?_
 refine anyS_take (i := 10) rfl (by kernel_rfl) (by kernel_rfl) (by kernel_rfl) (by kernel_rfl) (Yq.of (v := .int .i64 0) (y_extract rfl rfl) rfl) (.p (.t (.t .h)) (.p (.t (.t .h)) .nil)) ?_
 refine anyS_take (i := 11) rfl (by kernel_rfl) (by kernel_rfl) (by kernel_rfl) (by kernel_rfl) (Yq.of (v := .slice a_3 (2 ^ K) c_4) (y_assign rfl) rfl) (.p (.t (.t .h)) (.p (.t (.t .h)) .nil)) ?_
 refine anyS_take (i := 12) rfl (by kernel_rfl) (by kernel_rfl) (by kernel_rfl) (by kernel_rfl) (Yq.of (v := .int .i64 0) (y_assign rfl) rfl) (.p (.t (.t .h)) (.p (.t (.t .h)) .nil)) ?_
 refine anyS_done (by kernel_rfl) ?_
 refine thenS_n ?_
 refine wpS_seq ?_
 refine wpS_seq ?_
 refine wpS_region ?_
 refine s_y (v := .int .i64 0) (y_move rfl) rfl ?_
 refine s_y (v := .bool false) (y_neq (a := 0) (b := 0) (c := false) rfl rfl (by decide)) rfl ?_
 refine wpL_nil ?_
 refine thenS_n ?_
 refine wpS_cond_f rfl ?_
 refine wpS_skip ?_
 refine thenS_n ?_
 refine wpS_seq ?_
 refine wpS_region ?_
 refine s_y (v := .slice a_3 (2 ^ K) c_4) (y_move rfl) rfl ?_
 have HX := hH6n
 refine s_e rfl ?_
 refine e_call (f := 211) (args := #[.slice a_3 (2 ^ K) c_4]) (X := Option Addr × Nat) (A := []) (M := [osl a_3 c_4 (2 ^ K) 1 69 (h_5.flatMap slhV), fam h_5 (stg3 (chkB ((m : Nat) : Int) l1 l2 l3) l2 l3 K (mpD (chkB ((m : Nat) : Int) l1 l2 l3) ((m : Nat) : Int) l1 S m li nb (2 ^ K)) (2 + (2 * (rnd (((2 ^ K) : Nat) : Int))))), cel b_2 53 [.int .i64 ((R : Nat) : Int), .int .i64 ((m : Nat) : Int), .int .i64 ((S : Nat) : Int), .int .i64 W], cel b_1 84 [.int .i64 ((m : Nat) : Int), .slice a1 n1 c1, .slice a2 n2 c2, .slice a3 n3 c3]]) (V := slV (alv (stg3 (chkB ((m : Nat) : Int) l1 l2 l3) l2 l3 K (mpD (chkB ((m : Nat) : Int) l1 l2 l3) ((m : Nat) : Int) l1 S m li nb (2 ^ K)) (2 + (2 * (rnd (((2 ^ K) : Nat) : Int))))).flatten)) (A' := fun x => [slR prV 2 89 (alv (stg3 (chkB ((m : Nat) : Int) l1 l2 l3) l2 l3 K (mpD (chkB ((m : Nat) : Int) l1 l2 l3) ((m : Nat) : Int) l1 S m li nb (2 ^ K)) (2 + (2 * (rnd (((2 ^ K) : Nat) : Int))))).flatten) x]) (C := fun x => (alv (stg3 (chkB ((m : Nat) : Int) l1 l2 l3) l2 l3 K (mpD (chkB ((m : Nat) : Int) l1 l2 l3) ((m : Nat) : Int) l1 S m li nb (2 ^ K)) (2 + (2 * (rnd (((2 ^ K) : Nat) : Int))))).flatten).length ≤ x.2) Try.call211 (ev1 rfl) (.p .h (.p .h (.p .h (.p .h .nil)))) (fun w hs => (pairs_c a_3 (2 ^ K) c_4 h_5 (stg3 (chkB ((m : Nat) : Int) l1 l2 l3) l2 l3 K (mpD (chkB ((m : Nat) : Int) l1 l2 l3) ((m : Nat) : Int) l1 S m li nb (2 ^ K)) (2 + (2 * (rnd (((2 ^ K) : Nat) : Int))))) w (by assumption) (oslR .h w hs) hsl.1 (fun k hk => ⟨((getD_len hsl hk).trans (HX k hk).symm), fam_rd (.t .h) (by omega) w hs⟩) (by omega) (by omega)).cap) ?_
 rintro ⟨a_7, c_8⟩ hc9; replace hc9 : (alv (stg3 (chkB ((m : Nat) : Int) l1 l2 l3) l2 l3 K (mpD (chkB ((m : Nat) : Int) l1 l2 l3) ((m : Nat) : Int) l1 S m li nb (2 ^ K)) (2 + (2 * (rnd (((2 ^ K) : Nat) : Int))))).flatten).length ≤ c_8 := hc9
 refine s_y (v := .slice a_7 ((alv (stg3 (chkB ((m : Nat) : Int) l1 l2 l3) l2 l3 K (mpD (chkB ((m : Nat) : Int) l1 l2 l3) ((m : Nat) : Int) l1 S m li nb (2 ^ K)) (2 + (2 * (rnd (((2 ^ K) : Nat) : Int))))).flatten).length) c_8) (y_assign rfl) rfl ?_
 refine s_y (v := .int .i64 0) (y_assign rfl) rfl ?_
 refine wpL_nil ?_
 refine thenS_n ?_
 refine wpS_ret ?_
 refine fin2 (M := [osl a_7 c_8 ((alv (stg3 (chkB ((m : Nat) : Int) l1 l2 l3) l2 l3 K (mpD (chkB ((m : Nat) : Int) l1 l2 l3) ((m : Nat) : Int) l1 S m li nb (2 ^ K)) (2 + (2 * (rnd (((2 ^ K) : Nat) : Int))))).flatten).length) 2 89 ((alv (stg3 (chkB ((m : Nat) : Int) l1 l2 l3) l2 l3 K (mpD (chkB ((m : Nat) : Int) l1 l2 l3) ((m : Nat) : Int) l1 S m li nb (2 ^ K)) (2 + (2 * (rnd (((2 ^ K) : Nat) : Int))))).flatten).flatMap prV)]) (.inr rfl) (.p .h .nil) Try.results138 (rvT (v := .slice a_7 ((alv (stg3 (chkB ((m : Nat) : Int) l1 l2 l3) l2 l3 K (mpD (chkB ((m : Nat) : Int) l1 l2 l3) ((m : Nat) : Int) l1 S m li nb (2 ^ K)) (2 + (2 * (rnd (((2 ^ K) : Nat) : Int))))).flatten).length) c_8) rfl) (rvT (v := .int .i64 0) rfl) ?_
 exact fun w' hs => ⟨(a_7, c_8), rfl, hs, trivial⟩
theorem equalP (w : World) (a b : Pr) : (Op.equal 89 (.agg #[.int .i64 a.1.toInt, .int .i64 a.2.toInt]) (.agg #[.int .i64 b.1.toInt, .int .i64 b.2.toInt])).run Try.prog w = .ok (decide (a = b)) w := by
  have e : decide (a = b) = (decide (a.1 = b.1) && decide (a.2 = b.2)) := by
    rw [Bool.eq_iff_iff]
    cases a; cases b
    simp
  rw [e]
  simp [go_sem, Op.equal, Op.maxDepth, Int64.toInt_inj]
  by_cases h1 : a.1 = b.1 <;> by_cases h2 : a.2 = b.2 <;> simp [h1, h2]
theorem plain1P_c (a b : Pr) (w : World) : Pure Try.prog 215 #[.agg #[.int .i64 a.1.toInt, .int .i64 a.2.toInt], .agg #[.int .i64 b.1.toInt, .int .i64 b.2.toInt]] w (.bool (decide (a = b))) := by
 refine calls_S (n := 8) (σ0 := (upd (upd fr0 0 (.agg #[.int .i64 a.1.toInt, .int .i64 a.2.toInt])) 1 (.agg #[.int .i64 b.1.toInt, .int .i64 b.2.toInt]))) (D := []) (A := []) Try.func215 rfl Try.ntmps215 rfl (a2_fr _ _) (SH.start w) ?_
 refine wpS_seq ?_
 refine wpS_region ?_
 refine s_e rfl ?_
 refine e_box (v := .agg #[.int .i64 a.1.toInt, .int .i64 a.2.toInt]) (l := [.int .i64 a.1.toInt, .int .i64 a.2.toInt]) rfl rfl ?_
 intro b_1
 refine s_e rfl ?_
 refine e_box (v := .agg #[.int .i64 b.1.toInt, .int .i64 b.2.toInt]) (l := [.int .i64 b.1.toInt, .int .i64 b.2.toInt]) rfl rfl ?_
 intro b_2
 refine s_y (v := .bool false) (y_assign rfl) rfl ?_
 refine wpL_nil ?_
 refine thenS_n ?_
 refine wpS_seq ?_
 refine wpS_region ?_
 refine s_y (v := .agg #[.int .i64 a.1.toInt, .int .i64 a.2.toInt]) (y_loadN rfl Try.isAgg89 Try.sizeOf89 (ownN (.t .h) rfl)) rfl ?_
 refine s_y (v := .agg #[.int .i64 b.1.toInt, .int .i64 b.2.toInt]) (y_loadN rfl Try.isAgg89 Try.sizeOf89 (ownN .h rfl)) rfl ?_
 refine s_y (v := .bool (decide (a = b))) (y_eqlS (a := #[.int .i64 a.1.toInt, .int .i64 a.2.toInt]) (b := #[.int .i64 b.1.toInt, .int .i64 b.2.toInt]) (c := decide (a = b)) Try.eqGuardType89 (fun w => equalP w a b) rfl rfl) rfl ?_
 refine s_y (v := .bool (decide (a = b))) (y_assign rfl) rfl ?_
 refine wpL_nil ?_
 refine thenS_n ?_
 refine wpS_ret ?_
 refine fin1 (M := []) (v := .bool (decide (a = b))) (.inr rfl) (.nil) Try.results215 rfl ?_
 exact fun w' hs => ⟨rfl, hs⟩
theorem hsameP_c (ax ay : Option Addr) (nx ny cx cy : Nat) (x y : List Pr) (w : World) (hnx : x.length = nx) (hrx : Rds w ax (x.flatMap prV)) (hbx : nx ≤ 1000000) (hny : y.length = ny) (hry : Rds w ay (y.flatMap prV)) (hby : ny ≤ 1000000) : Pure Try.prog 214 #[.slice ax nx cx, .slice ay ny cy, .func (.func 215) #[] #[]] w (.bool (decide (x = y))) := by
 refine calls_S (n := 30) (σ0 := (upd (upd (upd fr0 0 (.slice ax nx cx)) 1 (.slice ay ny cy)) 2 (.func (.func 215) #[] #[]))) (D := []) (A := []) Try.func214 rfl Try.ntmps214 rfl (a3_fr _ _ _) (SH.start w) ?_
 refine wpS_seq ?_
 refine wpS_region ?_
 refine s_y (v := .bool false) (y_assign rfl) rfl ?_
 refine wpL_nil ?_
 refine thenS_n ?_
 refine wpS_seq ?_
 refine wpS_seq ?_
 refine wpS_region ?_
 refine s_y (v := .slice ax nx cx) (y_move rfl) rfl ?_
 refine s_y (v := .int .i64 ((nx : Nat) : Int)) (y_len (ty' := 0) (at_ := #[]) rfl Try.underlying153) rfl ?_
 refine s_y (v := .slice ay ny cy) (y_move rfl) rfl ?_
 refine s_y (v := .int .i64 ((ny : Nat) : Int)) (y_len (ty' := 0) (at_ := #[]) rfl Try.underlying153) rfl ?_
 refine s_y (v := .bool (decide (nx ≠ ny))) (y_neq (a := ((nx : Nat) : Int)) (b := ((ny : Nat) : Int)) (c := decide (nx ≠ ny)) rfl rfl (decide_eq_decide.2 (by omega))) rfl ?_
 refine wpL_nil ?_
 refine thenS_n ?_
 refine wpS_cond (t := decide (nx ≠ ny)) rfl (fun b1 => ?_) (fun b1 => ?_)
 ·
  have p1 := of_decide_eq_true b1
  refine wpS_seq ?_
  refine wpS_region ?_
  refine s_y (v := .bool false) (y_assign rfl) rfl ?_
  refine wpL_nil ?_
  refine thenS_n ?_
  refine wpS_ret ?_
  refine thenS_r ?_
  refine fin1 (M := []) (v := .bool false) (.inr rfl) (.nil) Try.results214 rfl ?_
  exact fun w' hs => ⟨congrArg (fun b => Ending.returned (Value.bool b)) (by exact (decide_eq_false fun h => by subst h; omega).symm), hs⟩
 ·
  have p1 := of_decide_eq_false b1
  refine wpS_skip ?_
  refine thenS_n ?_
  refine wpS_seq ?_
  refine wpS_seq ?_
  refine wpS_region ?_
  refine s_y (v := .int .i64 0) (y_assign rfl) rfl ?_
  refine wpL_nil ?_
  refine thenS_n ?_
  refine wpS_block ?_
  refine wpS_loop (fun mez ds σ L => ∃ i : Nat, mez = nx - i ∧ (i ≤ nx) ∧ (x.take i = y.take i) ∧ ds = [] ∧ σ 0 = .slice ax nx cx ∧ σ 1 = .slice ay ny cy ∧ σ 2 = .func (.func 215) #[] #[] ∧ σ 7 = .int .i64 ((i : Nat) : Int) ∧ Ent L []) (m0 := nx - 0) ⟨0, rfl, by omega, (by simp), rfl, rfl, rfl, rfl, rfl, .nil⟩ ?_
  rintro mez ds σ L ⟨i, hm_2, hf0_2, hf1_2, rfl, h0_2, h1_2, h2_2, h7_2, hE_2⟩
  refine wpS_ent hE_2 ?_; clear hE_2
  refine wpS_seq ?_
  refine wpS_seq ?_
  refine wpS_region ?_
  refine s_y (v := .int .i64 ((i : Nat) : Int)) (y_move h7_2) rfl ?_
  refine s_y (v := .slice ax nx cx) (y_move h0_2) rfl ?_
  refine s_y (v := .int .i64 ((nx : Nat) : Int)) (y_len (ty' := 0) (at_ := #[]) rfl Try.underlying153) rfl ?_
  refine s_y (v := .bool (decide (i < nx))) (y_lss (a := ((i : Nat) : Int)) (b := ((nx : Nat) : Int)) (c := decide (i < nx)) rfl rfl (decide_eq_decide.2 (by omega))) rfl ?_
  refine wpL_nil ?_
  refine thenS_n ?_
  refine wpS_cond (t := decide (i < nx)) rfl (fun b3 => ?_) (fun b3 => ?_)
  ·
   have p3 := of_decide_eq_true b3
   refine wpS_skip ?_
   refine thenS_n ?_
   refine wpS_seq ?_
   refine wpS_block ?_
   refine wpS_seq ?_
   refine wpS_lex (by kernel_rfl) (by kernel_rfl) ?_
   refine x_y (v := .func (.func 215) #[] #[]) (y_move h2_2) rfl ?_
   refine x_y (v := .slice ax nx cx) (y_move h0_2) rfl ?_
   refine x_y (v := .int .i64 ((i : Nat) : Int)) (y_move h7_2) rfl ?_
   refine x_y (v := .pointer (some ⟨aB ax, aO ax + i * 2, none⟩)) (y_idx (o := i * 2) rfl rfl Try.underlying153 Try.sizeOf89 (oldR hrx) ((fl_len prV_len _).trans (by first | omega | (simp only [List.length_set, List.length_take, List.length_drop]; done) | (simp only [List.length_set, List.length_take, List.length_drop]; omega))) (by decide) (by omega) (by omega) (by omega)) rfl ?_
   refine x_y (v := .agg #[.int .i64 (((x.getD i default).1).toInt), .int .i64 (((x.getD i default).2).toInt)]) (y_loadN (vs := prV (x.getD i default)) rfl Try.isAgg89 Try.sizeOf89 (rdN (oldR hrx) (fl_getN prV_len x i (by first | omega | (simp only [List.length_set, List.length_take, List.length_drop]; done) | (simp only [List.length_set, List.length_take, List.length_drop]; omega))))) rfl ?_
   refine x_y (v := .slice ay ny cy) (y_move h1_2) rfl ?_
   refine x_y (v := .int .i64 ((i : Nat) : Int)) (y_move h7_2) rfl ?_
   refine x_y (v := .pointer (some ⟨aB ay, aO ay + i * 2, none⟩)) (y_idx (o := i * 2) rfl rfl Try.underlying153 Try.sizeOf89 (oldR hry) ((fl_len prV_len _).trans (by first | omega | (simp only [List.length_set, List.length_take, List.length_drop]; done) | (simp only [List.length_set, List.length_take, List.length_drop]; omega))) (by decide) (by omega) (by omega) (by omega)) rfl ?_
   refine x_y (v := .agg #[.int .i64 (((y.getD i default).1).toInt), .int .i64 (((y.getD i default).2).toInt)]) (y_loadN (vs := prV (y.getD i default)) rfl Try.isAgg89 Try.sizeOf89 (rdN (oldR hry) (fl_getN prV_len y i (by first | omega | (simp only [List.length_set, List.length_take, List.length_drop]; done) | (simp only [List.length_set, List.length_take, List.length_drop]; omega))))) rfl ?_
   refine x_y (v := .bool (decide ((x.getD i default) = (y.getD i default)))) (y_callV (cap := #[]) (args := #[.agg #[.int .i64 (((x.getD i default).1).toInt), .int .i64 (((x.getD i default).2).toInt)], .agg #[.int .i64 (((y.getD i default).1).toInt), .int .i64 (((y.getD i default).2).toInt)]]) (args' := #[.agg #[.int .i64 (((x.getD i default).1).toInt), .int .i64 (((x.getD i default).2).toInt)], .agg #[.int .i64 (((y.getD i default).1).toInt), .int .i64 (((y.getD i default).2).toInt)]]) rfl Try.call215 (ev2 rfl rfl) rfl (fun w hs => plain1P_c (x.getD i default) (y.getD i default) w)) rfl ?_
   refine x_y (v := .bool (!(decide ((x.getD i default) = (y.getD i default))))) (y_not (b := decide ((x.getD i default) = (y.getD i default))) rfl) rfl ?_
   refine x_nil ?_
   refine thenS_n ?_
   refine wpS_cond (t := !(decide ((x.getD i default) = (y.getD i default)))) rfl (fun b4 => ?_) (fun b4 => ?_)
   ·
    have b5 : (decide ((x.getD i default) = (y.getD i default))) = false := by simpa using b4
    have p5 := of_decide_eq_false b5
    refine wpS_seq ?_
    refine wpS_region ?_
    refine s_y (v := .bool false) (y_assign rfl) rfl ?_
    refine wpL_nil ?_
    refine thenS_n ?_
    refine wpS_ret ?_
    refine blockS_r ?_
    refine thenS_r ?_
    refine thenS_r ?_
    refine blockS_r ?_
    refine thenS_r ?_
    refine fin1 (M := []) (v := .bool false) (.inr rfl) (.nil) Try.results214 rfl ?_
    exact fun w' hs => ⟨congrArg (fun b => Ending.returned (Value.bool b)) (by exact (gsame_not (i := i) (by assumption)).symm), hs⟩
   ·
    have b6 : (decide ((x.getD i default) = (y.getD i default))) = true := by simpa using b4
    have p6 := of_decide_eq_true b6
    refine wpS_skip ?_
    refine blockS_n ?_
    refine thenS_n ?_
    refine wpS_region ?_
    refine s_y (v := .int .i64 ((i : Nat) : Int)) (y_move h7_2) rfl ?_
    refine s_y (v := .int .i64 (((i + 1) : Nat) : Int)) (y_add (a := ((i : Nat) : Int)) (b := 1) rfl rfl (wI (by omega) (by omega) (by omega))) rfl ?_
    refine s_y (v := .int .i64 (((i + 1) : Nat) : Int)) (y_assign rfl) rfl ?_
    refine wpL_nil ?_
    refine thenS_n ?_
    exact ⟨_, by omega, ⟨(i + 1), rfl, by omega, (gsame_step (by omega) (by omega) (by assumption) (by assumption)), rfl, h0_2, h1_2, h2_2, rfl, .nil⟩⟩
  ·
   have p3 := of_decide_eq_false b3
   refine wpS_exit ?_
   refine thenS_x ?_
   refine thenS_x ?_
   refine blockS_h ?_
   refine thenS_n ?_
   refine wpS_seq ?_
   refine wpS_region ?_
   refine s_y (v := .bool true) (y_assign rfl) rfl ?_
   refine wpL_nil ?_
   refine thenS_n ?_
   refine wpS_ret ?_
   refine fin1 (M := []) (v := .bool true) (.inr rfl) (.nil) Try.results214 rfl ?_
   exact fun w' hs => ⟨congrArg (fun b => Ending.returned (Value.bool b)) (by exact (gsame_all (i := i) hnx hny (by omega) (by omega) (by assumption)).symm), hs⟩
theorem plainP_c (ax ay : Option Addr) (nx ny cx cy : Nat) (x y : List Pr) (w : World) (hnx : x.length = nx) (hrx : Rds w ax (x.flatMap prV)) (hbx : nx ≤ 1000000) (hny : y.length = ny) (hry : Rds w ay (y.flatMap prV)) (hby : ny ≤ 1000000) : Pure Try.prog 140 #[.slice ax nx cx, .slice ay ny cy] w (.bool (decide (x = y))) := by
 refine calls_S (n := 8) (σ0 := (upd (upd fr0 0 (.slice ax nx cx)) 1 (.slice ay ny cy))) (D := []) (A := []) Try.func140 rfl Try.ntmps140 rfl (a2_fr _ _) (SH.start w) ?_
 refine wpS_seq ?_
 refine wpS_region ?_
 refine s_y (v := .bool false) (y_assign rfl) rfl ?_
 refine wpL_nil ?_
 refine thenS_n ?_
 refine wpS_seq ?_
 refine wpS_region ?_
 refine s_y (v := .slice ax nx cx) (y_move rfl) rfl ?_
 refine s_y (v := .slice ay ny cy) (y_move rfl) rfl ?_
 refine s_y (v := .bool (decide (x = y))) (y_call (args := #[.slice ax nx cx, .slice ay ny cy, .func (.func 215) #[] #[]]) Try.call214 (ev3 rfl rfl rfl) (fun w hs => hsameP_c ax ay nx ny cx cy x y w hnx ((oldR hrx) w hs) (by omega) hny ((oldR hry) w hs) (by omega))) rfl ?_
 refine s_y (v := .bool (decide (x = y))) (y_assign rfl) rfl ?_
 refine wpL_nil ?_
 refine thenS_n ?_
 refine wpS_ret ?_
 refine fin1 (M := []) (v := .bool (decide (x = y))) (.inr rfl) (.nil) Try.results140 rfl ?_
 exact fun w' hs => ⟨rfl, hs⟩
theorem awake16_c (w : World) : Pure Try.prog 137 #[] w (.bool true) := by
 refine calls_S (n := 14) (σ0 := fr0) (D := []) (A := []) Try.func137 rfl Try.ntmps137 rfl a0_fr (SH.start w) ?_
 refine wpS_seq ?_
 refine wpS_region ?_
 refine s_y (v := .bool false) (y_assign rfl) rfl ?_
 refine wpL_nil ?_
 refine thenS_n ?_
 refine wpS_seq ?_
 refine wpS_region ?_
 refine s_y (v := .agg #[.int .i64 3, .int .i64 1, .int .i64 2, .int .i64 1]) (y_buildL (m := [(0, .int .i64 3), (1, .int .i64 1), (2, .int .i64 2), (3, .int .i64 1)]) (vs := #[.int .i64 3, .int .i64 1, .int .i64 2, .int .i64 1]) (evc rfl (evc rfl (evc rfl (evc rfl evn)))) (fun w => by kernel_rfl)) rfl ?_
 refine s_y (v := .tuple #[.int .i64 (bk (Par.mk 3 1 2 1)), .int .i64 (((sl (Par.mk 3 1 2 1)) : Nat) : Int)]) (y_call (args := #[.agg #[.int .i64 3, .int .i64 1, .int .i64 2, .int .i64 1]]) Try.call135 (ev1 rfl) (fun w hs => blocks_c (Par.mk 3 1 2 1) w)) rfl ?_
 refine s_y (v := .tuple #[.int .i64 (bk (Par.mk 3 1 2 1)), .int .i64 (((sl (Par.mk 3 1 2 1)) : Nat) : Int)]) (y_move rfl) rfl ?_
 refine s_y (v := .int .i64 (bk (Par.mk 3 1 2 1))) (y_extract rfl rfl) rfl ?_
 refine s_y (v := .int .i64 (((sl (Par.mk 3 1 2 1)) : Nat) : Int)) (y_extract rfl rfl) rfl ?_
 refine s_y (v := .int .i64 (bk (Par.mk 3 1 2 1))) (y_assign rfl) rfl ?_
 refine s_y (v := .int .i64 (((sl (Par.mk 3 1 2 1)) : Nat) : Int)) (y_assign rfl) rfl ?_
 refine wpL_nil ?_
 refine thenS_n ?_
 refine wpS_seq ?_
 refine wpS_region ?_
 refine s_y (v := .int .i64 (bk (Par.mk 3 1 2 1))) (y_move rfl) rfl ?_
 refine s_y (v := .bool (decide ((bk (Par.mk 3 1 2 1) : Int) = 2))) (y_eql (a := bk (Par.mk 3 1 2 1)) (b := 2) rfl rfl rfl) rfl ?_
 refine s_y (v := .bool (decide ((bk (Par.mk 3 1 2 1) : Int) = 2))) (y_move rfl) rfl ?_
 refine s_gy (y_move rfl) rfl rfl rfl rfl (b' := decide ((bk (Par.mk 3 1 2 1) : Int) = 2)) rfl (by decide +kernel) ?_
 refine s_gy (y_eql (a := (((sl (Par.mk 3 1 2 1)) : Nat) : Int)) (b := 4) (c := decide (((sl (Par.mk 3 1 2 1)) : Nat) = 4)) rfl rfl (decide_eq_decide.2 (by omega))) rfl rfl rfl rfl (b' := decide ((bk (Par.mk 3 1 2 1) : Int) = 2)) rfl (by decide +kernel) ?_
 refine s_y (v := .bool (decide (((sl (Par.mk 3 1 2 1)) : Nat) = 4))) (y_pickT (b := decide ((bk (Par.mk 3 1 2 1) : Int) = 2)) rfl (by decide +kernel) rfl) rfl ?_
 refine s_y (v := .bool (decide (((sl (Par.mk 3 1 2 1)) : Nat) = 4))) (y_assign rfl) rfl ?_
 refine wpL_nil ?_
 refine thenS_n ?_
 refine wpS_ret ?_
 refine fin1 (v := .bool (decide (((sl (Par.mk 3 1 2 1)) : Nat) = 4))) (.inr rfl) (.nil) Try.results137 rfl ?_
 exact fun w' hs => ⟨congrArg (fun b => Ending.returned (Value.bool b)) (show (decide (((sl (Par.mk 3 1 2 1)) : Nat) = 4)) = true from (by decide +kernel)), hs⟩
theorem sums_c (m : Nat) (w : World) (hm1 : 1 ≤ m) (hm2 : m ≤ 2) : Makes Try.prog 141 #[.int .i64 ((m : Nat) : Int)] w [] (X := (Option Addr × Nat) × Nat) (fun x => .agg #[.int .i64 ((m : Nat) : Int), .slice x.1.1 (m + 1) x.1.2, .slice (some ⟨x.2, 0, none⟩) 1 1, .slice none 0 0]) (fun x => [osl x.1.1 x.1.2 (m + 1) 6 86 ((smapL m).flatMap opcV), cel x.2 86 (sfoldL.flatMap opcV)]) (fun _ => True) := by
 refine calls_S (n := 24) (σ0 := (upd fr0 0 (.int .i64 ((m : Nat) : Int)))) (D := []) (A := []) Try.func141 rfl Try.ntmps141 rfl (a1_fr _) (SH.start w) ?_
 refine wpS_seq ?_
 refine wpS_region ?_
 refine s_e rfl ?_
 refine e_alloc (l := [.int .i64 0, .slice none 0 0, .slice none 0 0, .slice none 0 0]) Try.zeroValue84 rfl ?_
 intro b_1
 refine wpL_nil ?_
 refine thenS_n ?_
 refine wpS_seq ?_
 refine wpS_region ?_
 refine s_y (v := .int .i64 ((m : Nat) : Int)) (y_move rfl) rfl ?_
 refine s_y (v := .agg #[.int .i64 1, .int .i64 3, .int .i64 0, .int .i64 0, .int .i64 0, .int .i64 1]) (y_buildL (m := [(0, .int .i64 1), (1, .int .i64 3), (5, .int .i64 1)]) (vs := #[.int .i64 1, .int .i64 3, .int .i64 0, .int .i64 0, .int .i64 0, .int .i64 1]) (evc rfl (evc rfl (evc rfl evn))) (fun w => by kernel_rfl)) rfl ?_
 refine s_e rfl ?_
 refine e_bsliceL (e := 86) (m := [(0, .agg #[.int .i64 1, .int .i64 3, .int .i64 0, .int .i64 0, .int .i64 0, .int .i64 1])]) (l := [.int .i64 1, .int .i64 3, .int .i64 0, .int .i64 0, .int .i64 0, .int .i64 1]) (evc rfl evn) (fun w => by kernel_rfl) ?_
 intro b_2
 refine s_y (v := .agg #[.int .i64 2, .int .i64 0, .int .i64 0, .int .i64 1, .int .i64 0, .int .i64 0]) (y_buildL (m := [(0, .int .i64 2), (3, .int .i64 1)]) (vs := #[.int .i64 2, .int .i64 0, .int .i64 0, .int .i64 1, .int .i64 0, .int .i64 0]) (evc rfl (evc rfl evn)) (fun w => by kernel_rfl)) rfl ?_
 refine s_e rfl ?_
 refine e_bsliceL (e := 86) (m := [(0, .agg #[.int .i64 2, .int .i64 0, .int .i64 0, .int .i64 1, .int .i64 0, .int .i64 0])]) (l := [.int .i64 2, .int .i64 0, .int .i64 0, .int .i64 1, .int .i64 0, .int .i64 0]) (evc rfl evn) (fun w => by kernel_rfl) ?_
 intro b_3
 refine s_y (v := .agg #[.int .i64 ((m : Nat) : Int), .slice (some ⟨b_2, 0, none⟩) 1 1, .slice (some ⟨b_3, 0, none⟩) 1 1, .slice none 0 0]) (y_buildL (m := [(0, .int .i64 ((m : Nat) : Int)), (1, .slice (some ⟨b_2, 0, none⟩) 1 1), (2, .slice (some ⟨b_3, 0, none⟩) 1 1)]) (vs := #[.int .i64 ((m : Nat) : Int), .slice (some ⟨b_2, 0, none⟩) 1 1, .slice (some ⟨b_3, 0, none⟩) 1 1, .slice none 0 0]) (evc rfl (evc rfl (evc rfl evn))) (fun w => by kernel_rfl)) rfl ?_
 refine s_e rfl ?_
 refine e_alloc (l := [.int .i64 0, .slice none 0 0, .slice none 0 0, .slice none 0 0]) Try.zeroValue84 rfl ?_
 intro b_4
 refine s_e0 ?_
 refine e_store (vs := [.int .i64 ((m : Nat) : Int), .slice (some ⟨b_2, 0, none⟩) 1 1, .slice (some ⟨b_3, 0, none⟩) 1 1, .slice none 0 0]) (l' := [.int .i64 ((m : Nat) : Int), .slice (some ⟨b_2, 0, none⟩) 1 1, .slice (some ⟨b_3, 0, none⟩) 1 1, .slice none 0 0]) rfl rfl rfl rfl Try.sizeOf84 .h (Nat.le_of_ble_eq_true rfl) rfl ?_
 refine wpL_nil ?_
 refine thenS_n ?_
 refine wpS_seq ?_
 refine wpS_seq ?_
 refine wpS_region ?_
 refine s_y (v := .int .i64 0) (y_assign rfl) rfl ?_
 refine wpL_nil ?_
 refine thenS_n ?_
 refine wpS_block ?_
 refine wpS_sh (L' := [osl (some ⟨b_2, 0, none⟩) 1 1 6 86 (([(Opc.mk 1 3 0 0 0 1)] : List Opc).flatMap opcV), cel b_4 84 [.int .i64 ((m : Nat) : Int), .slice (some ⟨b_2, 0, none⟩) 1 1, .slice (some ⟨b_3, 0, none⟩) 1 1, .slice none 0 0], cel b_3 86 [.int .i64 2, .int .i64 0, .int .i64 0, .int .i64 1, .int .i64 0, .int .i64 0], cel b_1 84 [.int .i64 0, .slice none 0 0, .slice none 0 0, .slice none 0 0]]) (fun w hs => SH.celO (n := 1) (sz := 6) (.t (.t .h)) rfl (by decide) w hs) ?_
 refine wpS_loop (fun mez ds σ L => ∃ i : Nat, ∃ xs : List Opc, ∃ xa : Option Addr, ∃ xc : Nat, mez = m - i ∧ (i ≤ m) ∧ (xs.length = i + 1) ∧ (xs = smapL i) ∧ ds = [] ∧ σ 0 = .int .i64 ((m : Nat) : Int) ∧ σ 2 = .pointer (some ⟨b_1, 0, none⟩) ∧ σ 3 = .pointer (some ⟨b_4, 0, none⟩) ∧ σ 4 = .int .i64 ((i : Nat) : Int) ∧ Ent L [osl xa xc xs.length 6 86 (xs.flatMap opcV), cel b_4 84 [.int .i64 ((m : Nat) : Int), .slice xa xs.length xc, .slice (some ⟨b_3, 0, none⟩) 1 1, .slice none 0 0], cel b_3 86 [.int .i64 2, .int .i64 0, .int .i64 0, .int .i64 1, .int .i64 0, .int .i64 0], cel b_1 84 [.int .i64 0, .slice none 0 0, .slice none 0 0, .slice none 0 0]]) (m0 := m - 0) ⟨0, [(Opc.mk 1 3 0 0 0 1)], some ⟨b_2, 0, none⟩, 1, rfl, by omega, rfl, rfl, rfl, rfl, rfl, rfl, rfl, .p .h (.p .h (.p .h (.p .h .nil)))⟩ ?_
 rintro mez ds σ L ⟨i, xs, xa, xc, hm_5, hf0_5, hf1_5, hf2_5, rfl, h0_5, h2_5, h3_5, h4_5, hE_5⟩
 refine wpS_ent hE_5 ?_; clear hE_5
 refine wpS_seq ?_
 refine wpS_seq ?_
 refine wpS_region ?_
 refine s_y (v := .int .i64 ((i : Nat) : Int)) (y_move h4_5) rfl ?_
 refine s_y (v := .int .i64 ((m : Nat) : Int)) (y_move h0_5) rfl ?_
 refine s_y (v := .bool (decide (i < m))) (y_lss (a := ((i : Nat) : Int)) (b := ((m : Nat) : Int)) (c := decide (i < m)) rfl rfl (decide_eq_decide.2 (by omega))) rfl ?_
 refine wpL_nil ?_
 refine thenS_n ?_
 refine wpS_cond (t := decide (i < m)) rfl (fun b6 => ?_) (fun b6 => ?_)
 ·
  have p6 := of_decide_eq_true b6
  refine wpS_skip ?_
  refine thenS_n ?_
  refine wpS_seq ?_
  refine wpS_block ?_
  refine wpS_region ?_
  refine s_y (v := .pointer (some ⟨b_4, 1, none⟩)) (y_fieldAddr (o' := 1) h3_5 Try.underlying84 rfl Try.sizeOf82 (by decide) rfl) rfl ?_
  refine s_y (v := .slice xa xs.length xc) (y_load1 rfl Try.isAgg82 (own1 (.t .h) rfl)) rfl ?_
  refine s_y (v := .int .i64 ((i : Nat) : Int)) (y_move h4_5) rfl ?_
  refine s_y (v := .agg #[.int .i64 12, .int .i64 0, .int .i64 0, .int .i64 1, .int .i64 3, .int .i64 ((Int64.ofNat i).toInt)]) (y_buildL (m := [(0, .int .i64 12), (2, .int .i64 0), (3, .int .i64 1), (4, .int .i64 3), (5, .int .i64 ((Int64.ofNat i).toInt))]) (vs := #[.int .i64 12, .int .i64 0, .int .i64 0, .int .i64 1, .int .i64 3, .int .i64 ((Int64.ofNat i).toInt)]) (evc rfl (evc rfl (evc rfl (evc rfl (evc (congrArg (Value.int .i64) (onat (n := i) (by omega))) evn))))) (fun w => by kernel_rfl)) rfl ?_
  refine s_e rfl ?_
  refine e_bsliceL (e := 86) (m := [(0, .agg #[.int .i64 12, .int .i64 0, .int .i64 0, .int .i64 1, .int .i64 3, .int .i64 ((Int64.ofNat i).toInt)])]) (l := [.int .i64 12, .int .i64 0, .int .i64 0, .int .i64 1, .int .i64 3, .int .i64 ((Int64.ofNat i).toInt)]) (evc rfl evn) (fun w => by kernel_rfl) ?_
  intro b_7
  refine s_e rfl ?_
  refine e_appendL (enc := opcV) (xs := (xs : List Opc)) (ns := ([(Opc.mk 12 0 0 1 3 (Int64.ofNat i))] : List Opc)) (zs := (xs ++ [(Opc.mk 12 0 0 1 3 (Int64.ofNat i))])) (bytes := 48) opcV_len opcV_one Try.underlying82 (i := Try.t86) rfl rfl rfl rfl rfl (by decide) rfl rfl (by first | rfl | omega) (by first | rfl | omega) (.t .h) (fun w hs => celR .h w hs) (by first | rfl | simp) (by (try simp only [List.length_append, List.length_cons, List.length_nil] at *); omega) (by (try simp only [List.length_append, List.length_cons, List.length_nil] at *); omega) ?_
  intro a_8 c_9
  refine s_y (v := .pointer (some ⟨b_4, 1, none⟩)) (y_fieldAddr (o' := 1) h3_5 Try.underlying84 rfl Try.sizeOf82 (by decide) rfl) rfl ?_
  refine s_e0 ?_
  refine e_store (vs := [.slice a_8 ((xs ++ [(Opc.mk 12 0 0 1 3 (Int64.ofNat i))]).length) c_9]) (l' := [.int .i64 ((m : Nat) : Int), .slice a_8 ((xs ++ [(Opc.mk 12 0 0 1 3 (Int64.ofNat i))]).length) c_9, .slice (some ⟨b_3, 0, none⟩) 1 1, .slice none 0 0]) rfl rfl rfl rfl Try.sizeOf82 (.t (.t .h)) (Nat.le_of_ble_eq_true rfl) rfl ?_
  refine wpL_nil ?_
  refine blockS_n ?_
  refine thenS_n ?_
  refine wpS_region ?_
  refine s_y (v := .int .i64 ((i : Nat) : Int)) (y_move h4_5) rfl ?_
  refine s_y (v := .int .i64 (((i + 1) : Nat) : Int)) (y_add (a := ((i : Nat) : Int)) (b := 1) rfl rfl (wI (by omega) (by omega) (by omega))) rfl ?_
  refine s_y (v := .int .i64 (((i + 1) : Nat) : Int)) (y_assign rfl) rfl ?_
  refine wpL_nil ?_
  refine thenS_n ?_
  exact ⟨_, by omega, ⟨(i + 1), (xs ++ [(Opc.mk 12 0 0 1 3 (Int64.ofNat i))]), a_8, c_9, rfl, by omega, (by rw [List.length_append, List.length_singleton]; omega), (by rw [(by assumption : xs = _)]; exact smap_next i), rfl, h0_5, h2_5, h3_5, rfl, .p (.t .h) (.p .h (.p (.t .h) (.p (.t .h) .nil)))⟩⟩
 ·
  have p6 := of_decide_eq_false b6
  refine wpS_exit ?_
  refine thenS_x ?_
  refine thenS_x ?_
  refine blockS_h ?_
  refine thenS_n ?_
  refine wpS_seq ?_
  refine wpS_region ?_
  refine s_y (v := .agg #[.int .i64 ((m : Nat) : Int), .slice xa xs.length xc, .slice (some ⟨b_3, 0, none⟩) 1 1, .slice none 0 0]) (y_loadN h3_5 Try.isAgg84 Try.sizeOf84 (ownN (.t .h) rfl)) rfl ?_
  refine s_e0 ?_
  refine e_store (vs := [.int .i64 ((m : Nat) : Int), .slice xa xs.length xc, .slice (some ⟨b_3, 0, none⟩) 1 1, .slice none 0 0]) (l' := [.int .i64 ((m : Nat) : Int), .slice xa xs.length xc, .slice (some ⟨b_3, 0, none⟩) 1 1, .slice none 0 0]) h2_5 rfl rfl rfl Try.sizeOf84 (.t (.t (.t .h))) (Nat.le_of_ble_eq_true rfl) rfl ?_
  refine wpL_nil ?_
  refine thenS_n ?_
  refine wpS_ret ?_
  refine fin1' (M := [cel b_1 84 [.int .i64 ((m : Nat) : Int), .slice xa xs.length xc, .slice (some ⟨b_3, 0, none⟩) 1 1, .slice none 0 0], osl xa xc xs.length 6 86 (xs.flatMap opcV), cel b_3 86 [.int .i64 2, .int .i64 0, .int .i64 0, .int .i64 1, .int .i64 0, .int .i64 0]]) (.inr rfl) (.p .h (.p .h (.p (.t .h) .nil))) Try.results141 (rvC (vs := [.int .i64 ((m : Nat) : Int), .slice xa xs.length xc, .slice (some ⟨b_3, 0, none⟩) 1 1, .slice none 0 0]) h2_5 Try.isAgg84 Try.sizeOf84 (fun w hs => ownN .h rfl w hs)) ?_
  have e1 : xs = smapL m := by have h := (by assumption : xs = smapL i); rw [show i = m by omega] at h; exact h
  have e2 : xs.length = m + 1 := by rw [e1, smap_len]
  exact fun w' hs => ⟨((xa, xc), b_3), by rw [e2], by have hs2 := hs.ent (.p (.t .h) (.p (.t .h) .nil)); rw [e2, e1] at hs2; exact hs2, trivial⟩
theorem op_noR {k : Int} {o : Opc} (h : o.o0 < 1 ∨ 12 < o.o0 ∨ o.o1 < 0 ∨ 8 ≤ o.o1 ∨ o.o2 < 0 ∨ 8 ≤ o.o2 ∨ o.o3 < 0 ∨ 8 ≤ o.o3 ∨ o.o4 < 0 ∨ 8 ≤ o.o4) : opOk k o = false := by
  rw [Bool.eq_false_iff]
  intro h2
  have := op_regs h2
  omega
theorem op_yesR {k : Int} {o : Opc} (h : 1 ≤ o.o0 ∧ o.o0 ≤ 12 ∧ 0 ≤ o.o1 ∧ o.o1 < 8 ∧ 0 ≤ o.o2 ∧ o.o2 < 8 ∧ 0 ≤ o.o3 ∧ o.o3 < 8 ∧ 0 ≤ o.o4 ∧ o.o4 < 8) (h3 : o.o0 = 12 → 0 ≤ o.o5.toInt ∧ o.o5.toInt < k) : opOk k o = true := by
  unfold opOk rOk
  by_cases h4 : o.o0 = 12
  · have := h3 h4
    simp [h4]
    omega
  · simp [h4]
    omega
theorem part_end {k : Int} {l : List Opc} {i : Nat} (hi : l.length ≤ i) (h : (l.take i).all (opOk k) = true) {z : Nat} (hz : l.length = z) : partOk k l = decide (z ≤ 40) := by
  rw [List.take_of_length_le hi] at h
  unfold partOk
  rw [h, Bool.and_true, hz]
theorem rpart_c (ga : Option Addr) (gn gc : Nat) (l : List Opc) (k : Int) (w : World) (hn : l.length = gn) (hr : Rds w ga (l.flatMap opcV)) (hb : gn ≤ 9223372036854775807) : Pure Try.prog 181 #[.slice ga gn gc, .int .i64 k] w (.bool (partOk k l)) := by
 refine calls_S (n := 82) (σ0 := (upd (upd fr0 0 (.slice ga gn gc)) 1 (.int .i64 k))) (D := []) (A := []) Try.func181 rfl Try.ntmps181 rfl (a2_fr _ _) (SH.start w) ?_
 refine wpS_seq ?_
 refine wpS_region ?_
 refine s_y (v := .bool false) (y_assign rfl) rfl ?_
 refine wpL_nil ?_
 refine thenS_n ?_
 refine wpS_seq ?_
 refine wpS_seq ?_
 refine wpS_region ?_
 refine s_y (v := .int .i64 0) (y_assign rfl) rfl ?_
 refine wpL_nil ?_
 refine thenS_n ?_
 refine wpS_block ?_
 refine wpS_loop (fun mez ds σ L => ∃ i : Nat, mez = gn - i ∧ (i ≤ gn) ∧ ((l.take i).all (opOk k) = true) ∧ ds = [] ∧ σ 0 = .slice ga gn gc ∧ σ 1 = .int .i64 k ∧ σ 5 = .int .i64 ((i : Nat) : Int) ∧ Ent L []) (m0 := gn - 0) ⟨0, rfl, by omega, by simp, rfl, rfl, rfl, rfl, .nil⟩ ?_
 rintro mez ds σ L ⟨i, hm_1, hf0_1, hf1_1, rfl, h0_1, h1_1, h5_1, hE_1⟩
 refine wpS_ent hE_1 ?_; clear hE_1
 refine wpS_seq ?_
 refine wpS_seq ?_
 refine wpS_region ?_
 refine s_y (v := .int .i64 ((i : Nat) : Int)) (y_move h5_1) rfl ?_
 refine s_y (v := .slice ga gn gc) (y_move h0_1) rfl ?_
 refine s_y (v := .int .i64 ((gn : Nat) : Int)) (y_len (ty' := 0) (at_ := #[]) rfl Try.underlying82) rfl ?_
 refine s_y (v := .bool (decide (i < gn))) (y_lss (a := ((i : Nat) : Int)) (b := ((gn : Nat) : Int)) (c := decide (i < gn)) rfl rfl (decide_eq_decide.2 (by omega))) rfl ?_
 refine wpL_nil ?_
 refine thenS_n ?_
 refine wpS_cond (t := decide (i < gn)) rfl (fun b2 => ?_) (fun b2 => ?_)
 ·
  have p2 := of_decide_eq_true b2
  refine wpS_skip ?_
  refine thenS_n ?_
  refine wpS_seq ?_
  refine wpS_block ?_
  refine wpS_seq ?_
  refine wpS_region ?_
  refine s_y (v := .slice ga gn gc) (y_move h0_1) rfl ?_
  refine s_y (v := .int .i64 ((i : Nat) : Int)) (y_move h5_1) rfl ?_
  refine s_y (v := .pointer (some ⟨aB ga, aO ga + i * 6, none⟩)) (y_idx (o := i * 6) rfl rfl Try.underlying82 Try.sizeOf86 (oldR hr) ((fl_len opcV_len _).trans (by first | omega | (simp only [List.length_set, List.length_take, List.length_drop]; done) | (simp only [List.length_set, List.length_take, List.length_drop]; omega))) (by decide) (by omega) (by omega) (by omega)) rfl ?_
  refine s_y (v := .agg #[.int .i64 ((l.getD i default).o0), .int .i64 ((l.getD i default).o1), .int .i64 ((l.getD i default).o2), .int .i64 ((l.getD i default).o3), .int .i64 ((l.getD i default).o4), .int .i64 (((l.getD i default).o5).toInt)]) (y_loadN (vs := opcV (l.getD i default)) rfl Try.isAgg86 Try.sizeOf86 (rdN (oldR hr) (fl_getN opcV_len l i (by first | omega | (simp only [List.length_set, List.length_take, List.length_drop]; done) | (simp only [List.length_set, List.length_take, List.length_drop]; omega))))) rfl ?_
  refine s_e rfl ?_
  refine e_alloc (l := [.int .i64 0, .int .i64 0, .int .i64 0, .int .i64 0, .int .i64 0, .int .i64 0]) Try.zeroValue86 rfl ?_
  intro b_3
  refine s_e0 ?_
  refine e_store (vs := [.int .i64 ((l.getD i default).o0), .int .i64 ((l.getD i default).o1), .int .i64 ((l.getD i default).o2), .int .i64 ((l.getD i default).o3), .int .i64 ((l.getD i default).o4), .int .i64 (((l.getD i default).o5).toInt)]) (l' := [.int .i64 ((l.getD i default).o0), .int .i64 ((l.getD i default).o1), .int .i64 ((l.getD i default).o2), .int .i64 ((l.getD i default).o3), .int .i64 ((l.getD i default).o4), .int .i64 (((l.getD i default).o5).toInt)]) rfl rfl rfl rfl Try.sizeOf86 .h (Nat.le_of_ble_eq_true rfl) rfl ?_
  refine wpL_nil ?_
  refine thenS_n ?_
  refine wpS_seq ?_
  refine wpS_seq ?_
  refine wpS_region ?_
  refine s_y (v := .pointer (some ⟨b_3, 0, none⟩)) (y_fieldAddr (o' := 0) rfl Try.underlying86 rfl Try.sizeOf3 (by decide) rfl) rfl ?_
  refine s_y (v := .int .i64 ((l.getD i default).o0)) (y_load1 rfl Try.isAgg3 (own1 .h rfl)) rfl ?_
  refine s_y (v := .bool (decide (((l.getD i default).o0 : Int) < 1))) (y_lss (a := (l.getD i default).o0) (b := 1) rfl rfl rfl) rfl ?_
  refine s_y (v := .bool (decide (((l.getD i default).o0 : Int) < 1))) (y_move rfl) rfl ?_
  rcases Bool.eq_false_or_eq_true (decide (((l.getD i default).o0 : Int) < 1)) with b4 | b4
  ·
   have p4 := of_decide_eq_true b4
   refine s_no rfl rfl rfl rfl (b' := decide (((l.getD i default).o0 : Int) < 1)) rfl b4 ?_
   refine s_no rfl rfl rfl rfl (b' := decide (((l.getD i default).o0 : Int) < 1)) rfl b4 ?_
   refine s_no rfl rfl rfl rfl (b' := decide (((l.getD i default).o0 : Int) < 1)) rfl b4 ?_
   refine s_y (v := .bool true) (y_pickT (b := decide (((l.getD i default).o0 : Int) < 1)) rfl b4 rfl) rfl ?_
   refine s_y (v := .bool true) (y_move rfl) rfl ?_
   refine s_no rfl rfl rfl rfl rfl rfl ?_
   refine s_no rfl rfl rfl rfl rfl rfl ?_
   refine s_no rfl rfl rfl rfl rfl rfl ?_
   refine s_y (v := .bool true) (y_pickT rfl rfl rfl) rfl ?_
   refine s_y (v := .bool true) (y_move rfl) rfl ?_
   refine s_no rfl rfl rfl rfl rfl rfl ?_
   refine s_no rfl rfl rfl rfl rfl rfl ?_
   refine s_no rfl rfl rfl rfl rfl rfl ?_
   refine s_y (v := .bool true) (y_pickT rfl rfl rfl) rfl ?_
   refine s_y (v := .bool true) (y_move rfl) rfl ?_
   refine s_no rfl rfl rfl rfl rfl rfl ?_
   refine s_no rfl rfl rfl rfl rfl rfl ?_
   refine s_no rfl rfl rfl rfl rfl rfl ?_
   refine s_y (v := .bool true) (y_pickT rfl rfl rfl) rfl ?_
   refine s_y (v := .bool true) (y_move rfl) rfl ?_
   refine s_no rfl rfl rfl rfl rfl rfl ?_
   refine s_no rfl rfl rfl rfl rfl rfl ?_
   refine s_no rfl rfl rfl rfl rfl rfl ?_
   refine s_y (v := .bool true) (y_pickT rfl rfl rfl) rfl ?_
   refine s_y (v := .bool true) (y_move rfl) rfl ?_
   refine s_no rfl rfl rfl rfl rfl rfl ?_
   refine s_no rfl rfl rfl rfl rfl rfl ?_
   refine s_no rfl rfl rfl rfl rfl rfl ?_
   refine s_y (v := .bool true) (y_pickT rfl rfl rfl) rfl ?_
   refine s_y (v := .bool true) (y_move rfl) rfl ?_
   refine s_no rfl rfl rfl rfl rfl rfl ?_
   refine s_no rfl rfl rfl rfl rfl rfl ?_
   refine s_no rfl rfl rfl rfl rfl rfl ?_
   refine s_y (v := .bool true) (y_pickT rfl rfl rfl) rfl ?_
   refine s_y (v := .bool true) (y_move rfl) rfl ?_
   refine s_no rfl rfl rfl rfl rfl rfl ?_
   refine s_no rfl rfl rfl rfl rfl rfl ?_
   refine s_no rfl rfl rfl rfl rfl rfl ?_
   refine s_y (v := .bool true) (y_pickT rfl rfl rfl) rfl ?_
   refine s_y (v := .bool true) (y_move rfl) rfl ?_
   refine s_no rfl rfl rfl rfl rfl rfl ?_
   refine s_no rfl rfl rfl rfl rfl rfl ?_
   refine s_no rfl rfl rfl rfl rfl rfl ?_
   refine s_y (v := .bool true) (y_pickT rfl rfl rfl) rfl ?_
   refine wpL_nil ?_
   refine thenS_n ?_
   refine wpS_cond_t rfl ?_
   refine wpS_seq ?_
   refine wpS_region ?_
   refine s_y (v := .bool false) (y_assign rfl) rfl ?_
   refine wpL_nil ?_
   refine thenS_n ?_
   refine wpS_ret ?_
   refine thenS_r ?_
   refine blockS_r ?_
   refine thenS_r ?_
   refine thenS_r ?_
   refine blockS_r ?_
   refine thenS_r ?_
   refine fin1 (v := .bool false) (.inr rfl) (.nil) Try.results181 rfl ?_
   exact fun w' hs => ⟨congrArg (fun b : Bool => Ending.returned (.bool b)) ((part_no (i := i) (by omega) (by first | exact op_noR (by omega) | exact op_no3 (by omega) (by omega))).symm), hs⟩
  ·
   have p4 := of_decide_eq_false b4
   refine s_gy (y_fieldAddr (o' := 0) rfl Try.underlying86 rfl Try.sizeOf3 (by decide) rfl) rfl rfl rfl rfl (b' := decide (((l.getD i default).o0 : Int) < 1)) rfl b4 ?_
   refine s_gy (y_load1 rfl Try.isAgg3 (own1 .h rfl)) rfl rfl rfl rfl (b' := decide (((l.getD i default).o0 : Int) < 1)) rfl b4 ?_
   refine s_gy (y_gtr (a := (l.getD i default).o0) (b := 12) rfl rfl rfl) rfl rfl rfl rfl (b' := decide (((l.getD i default).o0 : Int) < 1)) rfl b4 ?_
   refine s_y (v := .bool (decide ((12 : Int) < ((l.getD i default).o0)))) (y_pickF (b := decide (((l.getD i default).o0 : Int) < 1)) rfl b4 rfl) rfl ?_
   refine s_y (v := .bool (decide ((12 : Int) < ((l.getD i default).o0)))) (y_move rfl) rfl ?_
   rcases Bool.eq_false_or_eq_true (decide ((12 : Int) < ((l.getD i default).o0))) with b5 | b5
   ·
    have p5 := of_decide_eq_true b5
    refine s_no rfl rfl rfl rfl (b' := decide ((12 : Int) < ((l.getD i default).o0))) rfl b5 ?_
    refine s_no rfl rfl rfl rfl (b' := decide ((12 : Int) < ((l.getD i default).o0))) rfl b5 ?_
    refine s_no rfl rfl rfl rfl (b' := decide ((12 : Int) < ((l.getD i default).o0))) rfl b5 ?_
    refine s_y (v := .bool true) (y_pickT (b := decide ((12 : Int) < ((l.getD i default).o0))) rfl b5 rfl) rfl ?_
    refine s_y (v := .bool true) (y_move rfl) rfl ?_
    refine s_no rfl rfl rfl rfl rfl rfl ?_
    refine s_no rfl rfl rfl rfl rfl rfl ?_
    refine s_no rfl rfl rfl rfl rfl rfl ?_
    refine s_y (v := .bool true) (y_pickT rfl rfl rfl) rfl ?_
    refine s_y (v := .bool true) (y_move rfl) rfl ?_
    refine s_no rfl rfl rfl rfl rfl rfl ?_
    refine s_no rfl rfl rfl rfl rfl rfl ?_
    refine s_no rfl rfl rfl rfl rfl rfl ?_
    refine s_y (v := .bool true) (y_pickT rfl rfl rfl) rfl ?_
    refine s_y (v := .bool true) (y_move rfl) rfl ?_
    refine s_no rfl rfl rfl rfl rfl rfl ?_
    refine s_no rfl rfl rfl rfl rfl rfl ?_
    refine s_no rfl rfl rfl rfl rfl rfl ?_
    refine s_y (v := .bool true) (y_pickT rfl rfl rfl) rfl ?_
    refine s_y (v := .bool true) (y_move rfl) rfl ?_
    refine s_no rfl rfl rfl rfl rfl rfl ?_
    refine s_no rfl rfl rfl rfl rfl rfl ?_
    refine s_no rfl rfl rfl rfl rfl rfl ?_
    refine s_y (v := .bool true) (y_pickT rfl rfl rfl) rfl ?_
    refine s_y (v := .bool true) (y_move rfl) rfl ?_
    refine s_no rfl rfl rfl rfl rfl rfl ?_
    refine s_no rfl rfl rfl rfl rfl rfl ?_
    refine s_no rfl rfl rfl rfl rfl rfl ?_
    refine s_y (v := .bool true) (y_pickT rfl rfl rfl) rfl ?_
    refine s_y (v := .bool true) (y_move rfl) rfl ?_
    refine s_no rfl rfl rfl rfl rfl rfl ?_
    refine s_no rfl rfl rfl rfl rfl rfl ?_
    refine s_no rfl rfl rfl rfl rfl rfl ?_
    refine s_y (v := .bool true) (y_pickT rfl rfl rfl) rfl ?_
    refine s_y (v := .bool true) (y_move rfl) rfl ?_
    refine s_no rfl rfl rfl rfl rfl rfl ?_
    refine s_no rfl rfl rfl rfl rfl rfl ?_
    refine s_no rfl rfl rfl rfl rfl rfl ?_
    refine s_y (v := .bool true) (y_pickT rfl rfl rfl) rfl ?_
    refine wpL_nil ?_
    refine thenS_n ?_
    refine wpS_cond_t rfl ?_
    refine wpS_seq ?_
    refine wpS_region ?_
    refine s_y (v := .bool false) (y_assign rfl) rfl ?_
    refine wpL_nil ?_
    refine thenS_n ?_
    refine wpS_ret ?_
    refine thenS_r ?_
    refine blockS_r ?_
    refine thenS_r ?_
    refine thenS_r ?_
    refine blockS_r ?_
    refine thenS_r ?_
    refine fin1 (v := .bool false) (.inr rfl) (.nil) Try.results181 rfl ?_
    exact fun w' hs => ⟨congrArg (fun b : Bool => Ending.returned (.bool b)) ((part_no (i := i) (by omega) (by first | exact op_noR (by omega) | exact op_no3 (by omega) (by omega))).symm), hs⟩
   ·
    have p5 := of_decide_eq_false b5
    refine s_gy (y_fieldAddr (o' := 1) rfl Try.underlying86 rfl Try.sizeOf3 (by decide) rfl) rfl rfl rfl rfl (b' := decide ((12 : Int) < ((l.getD i default).o0))) rfl b5 ?_
    refine s_gy (y_load1 rfl Try.isAgg3 (own1 .h rfl)) rfl rfl rfl rfl (b' := decide ((12 : Int) < ((l.getD i default).o0))) rfl b5 ?_
    refine s_gy (y_lss (a := (l.getD i default).o1) (b := 0) rfl rfl rfl) rfl rfl rfl rfl (b' := decide ((12 : Int) < ((l.getD i default).o0))) rfl b5 ?_
    refine s_y (v := .bool (decide (((l.getD i default).o1 : Int) < 0))) (y_pickF (b := decide ((12 : Int) < ((l.getD i default).o0))) rfl b5 rfl) rfl ?_
    refine s_y (v := .bool (decide (((l.getD i default).o1 : Int) < 0))) (y_move rfl) rfl ?_
    rcases Bool.eq_false_or_eq_true (decide (((l.getD i default).o1 : Int) < 0)) with b6 | b6
    ·
     have p6 := of_decide_eq_true b6
     refine s_no rfl rfl rfl rfl (b' := decide (((l.getD i default).o1 : Int) < 0)) rfl b6 ?_
     refine s_no rfl rfl rfl rfl (b' := decide (((l.getD i default).o1 : Int) < 0)) rfl b6 ?_
     refine s_no rfl rfl rfl rfl (b' := decide (((l.getD i default).o1 : Int) < 0)) rfl b6 ?_
     refine s_y (v := .bool true) (y_pickT (b := decide (((l.getD i default).o1 : Int) < 0)) rfl b6 rfl) rfl ?_
     refine s_y (v := .bool true) (y_move rfl) rfl ?_
     refine s_no rfl rfl rfl rfl rfl rfl ?_
     refine s_no rfl rfl rfl rfl rfl rfl ?_
     refine s_no rfl rfl rfl rfl rfl rfl ?_
     refine s_y (v := .bool true) (y_pickT rfl rfl rfl) rfl ?_
     refine s_y (v := .bool true) (y_move rfl) rfl ?_
     refine s_no rfl rfl rfl rfl rfl rfl ?_
     refine s_no rfl rfl rfl rfl rfl rfl ?_
     refine s_no rfl rfl rfl rfl rfl rfl ?_
     refine s_y (v := .bool true) (y_pickT rfl rfl rfl) rfl ?_
     refine s_y (v := .bool true) (y_move rfl) rfl ?_
     refine s_no rfl rfl rfl rfl rfl rfl ?_
     refine s_no rfl rfl rfl rfl rfl rfl ?_
     refine s_no rfl rfl rfl rfl rfl rfl ?_
     refine s_y (v := .bool true) (y_pickT rfl rfl rfl) rfl ?_
     refine s_y (v := .bool true) (y_move rfl) rfl ?_
     refine s_no rfl rfl rfl rfl rfl rfl ?_
     refine s_no rfl rfl rfl rfl rfl rfl ?_
     refine s_no rfl rfl rfl rfl rfl rfl ?_
     refine s_y (v := .bool true) (y_pickT rfl rfl rfl) rfl ?_
     refine s_y (v := .bool true) (y_move rfl) rfl ?_
     refine s_no rfl rfl rfl rfl rfl rfl ?_
     refine s_no rfl rfl rfl rfl rfl rfl ?_
     refine s_no rfl rfl rfl rfl rfl rfl ?_
     refine s_y (v := .bool true) (y_pickT rfl rfl rfl) rfl ?_
     refine s_y (v := .bool true) (y_move rfl) rfl ?_
     refine s_no rfl rfl rfl rfl rfl rfl ?_
     refine s_no rfl rfl rfl rfl rfl rfl ?_
     refine s_no rfl rfl rfl rfl rfl rfl ?_
     refine s_y (v := .bool true) (y_pickT rfl rfl rfl) rfl ?_
     refine wpL_nil ?_
     refine thenS_n ?_
     refine wpS_cond_t rfl ?_
     refine wpS_seq ?_
     refine wpS_region ?_
     refine s_y (v := .bool false) (y_assign rfl) rfl ?_
     refine wpL_nil ?_
     refine thenS_n ?_
     refine wpS_ret ?_
     refine thenS_r ?_
     refine blockS_r ?_
     refine thenS_r ?_
     refine thenS_r ?_
     refine blockS_r ?_
     refine thenS_r ?_
     refine fin1 (v := .bool false) (.inr rfl) (.nil) Try.results181 rfl ?_
     exact fun w' hs => ⟨congrArg (fun b : Bool => Ending.returned (.bool b)) ((part_no (i := i) (by omega) (by first | exact op_noR (by omega) | exact op_no3 (by omega) (by omega))).symm), hs⟩
    ·
     have p6 := of_decide_eq_false b6
     refine s_gy (y_fieldAddr (o' := 1) rfl Try.underlying86 rfl Try.sizeOf3 (by decide) rfl) rfl rfl rfl rfl (b' := decide (((l.getD i default).o1 : Int) < 0)) rfl b6 ?_
     refine s_gy (y_load1 rfl Try.isAgg3 (own1 .h rfl)) rfl rfl rfl rfl (b' := decide (((l.getD i default).o1 : Int) < 0)) rfl b6 ?_
     refine s_gy (y_geq (a := (l.getD i default).o1) (b := 8) rfl rfl rfl) rfl rfl rfl rfl (b' := decide (((l.getD i default).o1 : Int) < 0)) rfl b6 ?_
     refine s_y (v := .bool (decide ((8 : Int) ≤ ((l.getD i default).o1)))) (y_pickF (b := decide (((l.getD i default).o1 : Int) < 0)) rfl b6 rfl) rfl ?_
     refine s_y (v := .bool (decide ((8 : Int) ≤ ((l.getD i default).o1)))) (y_move rfl) rfl ?_
     rcases Bool.eq_false_or_eq_true (decide ((8 : Int) ≤ ((l.getD i default).o1))) with b7 | b7
     ·
      have p7 := of_decide_eq_true b7
      refine s_no rfl rfl rfl rfl (b' := decide ((8 : Int) ≤ ((l.getD i default).o1))) rfl b7 ?_
      refine s_no rfl rfl rfl rfl (b' := decide ((8 : Int) ≤ ((l.getD i default).o1))) rfl b7 ?_
      refine s_no rfl rfl rfl rfl (b' := decide ((8 : Int) ≤ ((l.getD i default).o1))) rfl b7 ?_
      refine s_y (v := .bool true) (y_pickT (b := decide ((8 : Int) ≤ ((l.getD i default).o1))) rfl b7 rfl) rfl ?_
      refine s_y (v := .bool true) (y_move rfl) rfl ?_
      refine s_no rfl rfl rfl rfl rfl rfl ?_
      refine s_no rfl rfl rfl rfl rfl rfl ?_
      refine s_no rfl rfl rfl rfl rfl rfl ?_
      refine s_y (v := .bool true) (y_pickT rfl rfl rfl) rfl ?_
      refine s_y (v := .bool true) (y_move rfl) rfl ?_
      refine s_no rfl rfl rfl rfl rfl rfl ?_
      refine s_no rfl rfl rfl rfl rfl rfl ?_
      refine s_no rfl rfl rfl rfl rfl rfl ?_
      refine s_y (v := .bool true) (y_pickT rfl rfl rfl) rfl ?_
      refine s_y (v := .bool true) (y_move rfl) rfl ?_
      refine s_no rfl rfl rfl rfl rfl rfl ?_
      refine s_no rfl rfl rfl rfl rfl rfl ?_
      refine s_no rfl rfl rfl rfl rfl rfl ?_
      refine s_y (v := .bool true) (y_pickT rfl rfl rfl) rfl ?_
      refine s_y (v := .bool true) (y_move rfl) rfl ?_
      refine s_no rfl rfl rfl rfl rfl rfl ?_
      refine s_no rfl rfl rfl rfl rfl rfl ?_
      refine s_no rfl rfl rfl rfl rfl rfl ?_
      refine s_y (v := .bool true) (y_pickT rfl rfl rfl) rfl ?_
      refine s_y (v := .bool true) (y_move rfl) rfl ?_
      refine s_no rfl rfl rfl rfl rfl rfl ?_
      refine s_no rfl rfl rfl rfl rfl rfl ?_
      refine s_no rfl rfl rfl rfl rfl rfl ?_
      refine s_y (v := .bool true) (y_pickT rfl rfl rfl) rfl ?_
      refine wpL_nil ?_
      refine thenS_n ?_
      refine wpS_cond_t rfl ?_
      refine wpS_seq ?_
      refine wpS_region ?_
      refine s_y (v := .bool false) (y_assign rfl) rfl ?_
      refine wpL_nil ?_
      refine thenS_n ?_
      refine wpS_ret ?_
      refine thenS_r ?_
      refine blockS_r ?_
      refine thenS_r ?_
      refine thenS_r ?_
      refine blockS_r ?_
      refine thenS_r ?_
      refine fin1 (v := .bool false) (.inr rfl) (.nil) Try.results181 rfl ?_
      exact fun w' hs => ⟨congrArg (fun b : Bool => Ending.returned (.bool b)) ((part_no (i := i) (by omega) (by first | exact op_noR (by omega) | exact op_no3 (by omega) (by omega))).symm), hs⟩
     ·
      have p7 := of_decide_eq_false b7
      refine s_gy (y_fieldAddr (o' := 2) rfl Try.underlying86 rfl Try.sizeOf3 (by decide) rfl) rfl rfl rfl rfl (b' := decide ((8 : Int) ≤ ((l.getD i default).o1))) rfl b7 ?_
      refine s_gy (y_load1 rfl Try.isAgg3 (own1 .h rfl)) rfl rfl rfl rfl (b' := decide ((8 : Int) ≤ ((l.getD i default).o1))) rfl b7 ?_
      refine s_gy (y_lss (a := (l.getD i default).o2) (b := 0) rfl rfl rfl) rfl rfl rfl rfl (b' := decide ((8 : Int) ≤ ((l.getD i default).o1))) rfl b7 ?_
      refine s_y (v := .bool (decide (((l.getD i default).o2 : Int) < 0))) (y_pickF (b := decide ((8 : Int) ≤ ((l.getD i default).o1))) rfl b7 rfl) rfl ?_
      refine s_y (v := .bool (decide (((l.getD i default).o2 : Int) < 0))) (y_move rfl) rfl ?_
      rcases Bool.eq_false_or_eq_true (decide (((l.getD i default).o2 : Int) < 0)) with b8 | b8
      ·
       have p8 := of_decide_eq_true b8
       refine s_no rfl rfl rfl rfl (b' := decide (((l.getD i default).o2 : Int) < 0)) rfl b8 ?_
       refine s_no rfl rfl rfl rfl (b' := decide (((l.getD i default).o2 : Int) < 0)) rfl b8 ?_
       refine s_no rfl rfl rfl rfl (b' := decide (((l.getD i default).o2 : Int) < 0)) rfl b8 ?_
       refine s_y (v := .bool true) (y_pickT (b := decide (((l.getD i default).o2 : Int) < 0)) rfl b8 rfl) rfl ?_
       refine s_y (v := .bool true) (y_move rfl) rfl ?_
       refine s_no rfl rfl rfl rfl rfl rfl ?_
       refine s_no rfl rfl rfl rfl rfl rfl ?_
       refine s_no rfl rfl rfl rfl rfl rfl ?_
       refine s_y (v := .bool true) (y_pickT rfl rfl rfl) rfl ?_
       refine s_y (v := .bool true) (y_move rfl) rfl ?_
       refine s_no rfl rfl rfl rfl rfl rfl ?_
       refine s_no rfl rfl rfl rfl rfl rfl ?_
       refine s_no rfl rfl rfl rfl rfl rfl ?_
       refine s_y (v := .bool true) (y_pickT rfl rfl rfl) rfl ?_
       refine s_y (v := .bool true) (y_move rfl) rfl ?_
       refine s_no rfl rfl rfl rfl rfl rfl ?_
       refine s_no rfl rfl rfl rfl rfl rfl ?_
       refine s_no rfl rfl rfl rfl rfl rfl ?_
       refine s_y (v := .bool true) (y_pickT rfl rfl rfl) rfl ?_
       refine s_y (v := .bool true) (y_move rfl) rfl ?_
       refine s_no rfl rfl rfl rfl rfl rfl ?_
       refine s_no rfl rfl rfl rfl rfl rfl ?_
       refine s_no rfl rfl rfl rfl rfl rfl ?_
       refine s_y (v := .bool true) (y_pickT rfl rfl rfl) rfl ?_
       refine wpL_nil ?_
       refine thenS_n ?_
       refine wpS_cond_t rfl ?_
       refine wpS_seq ?_
       refine wpS_region ?_
       refine s_y (v := .bool false) (y_assign rfl) rfl ?_
       refine wpL_nil ?_
       refine thenS_n ?_
       refine wpS_ret ?_
       refine thenS_r ?_
       refine blockS_r ?_
       refine thenS_r ?_
       refine thenS_r ?_
       refine blockS_r ?_
       refine thenS_r ?_
       refine fin1 (v := .bool false) (.inr rfl) (.nil) Try.results181 rfl ?_
       exact fun w' hs => ⟨congrArg (fun b : Bool => Ending.returned (.bool b)) ((part_no (i := i) (by omega) (by first | exact op_noR (by omega) | exact op_no3 (by omega) (by omega))).symm), hs⟩
      ·
       have p8 := of_decide_eq_false b8
       refine s_gy (y_fieldAddr (o' := 2) rfl Try.underlying86 rfl Try.sizeOf3 (by decide) rfl) rfl rfl rfl rfl (b' := decide (((l.getD i default).o2 : Int) < 0)) rfl b8 ?_
       refine s_gy (y_load1 rfl Try.isAgg3 (own1 .h rfl)) rfl rfl rfl rfl (b' := decide (((l.getD i default).o2 : Int) < 0)) rfl b8 ?_
       refine s_gy (y_geq (a := (l.getD i default).o2) (b := 8) rfl rfl rfl) rfl rfl rfl rfl (b' := decide (((l.getD i default).o2 : Int) < 0)) rfl b8 ?_
       refine s_y (v := .bool (decide ((8 : Int) ≤ ((l.getD i default).o2)))) (y_pickF (b := decide (((l.getD i default).o2 : Int) < 0)) rfl b8 rfl) rfl ?_
       refine s_y (v := .bool (decide ((8 : Int) ≤ ((l.getD i default).o2)))) (y_move rfl) rfl ?_
       rcases Bool.eq_false_or_eq_true (decide ((8 : Int) ≤ ((l.getD i default).o2))) with b9 | b9
       ·
        have p9 := of_decide_eq_true b9
        refine s_no rfl rfl rfl rfl (b' := decide ((8 : Int) ≤ ((l.getD i default).o2))) rfl b9 ?_
        refine s_no rfl rfl rfl rfl (b' := decide ((8 : Int) ≤ ((l.getD i default).o2))) rfl b9 ?_
        refine s_no rfl rfl rfl rfl (b' := decide ((8 : Int) ≤ ((l.getD i default).o2))) rfl b9 ?_
        refine s_y (v := .bool true) (y_pickT (b := decide ((8 : Int) ≤ ((l.getD i default).o2))) rfl b9 rfl) rfl ?_
        refine s_y (v := .bool true) (y_move rfl) rfl ?_
        refine s_no rfl rfl rfl rfl rfl rfl ?_
        refine s_no rfl rfl rfl rfl rfl rfl ?_
        refine s_no rfl rfl rfl rfl rfl rfl ?_
        refine s_y (v := .bool true) (y_pickT rfl rfl rfl) rfl ?_
        refine s_y (v := .bool true) (y_move rfl) rfl ?_
        refine s_no rfl rfl rfl rfl rfl rfl ?_
        refine s_no rfl rfl rfl rfl rfl rfl ?_
        refine s_no rfl rfl rfl rfl rfl rfl ?_
        refine s_y (v := .bool true) (y_pickT rfl rfl rfl) rfl ?_
        refine s_y (v := .bool true) (y_move rfl) rfl ?_
        refine s_no rfl rfl rfl rfl rfl rfl ?_
        refine s_no rfl rfl rfl rfl rfl rfl ?_
        refine s_no rfl rfl rfl rfl rfl rfl ?_
        refine s_y (v := .bool true) (y_pickT rfl rfl rfl) rfl ?_
        refine wpL_nil ?_
        refine thenS_n ?_
        refine wpS_cond_t rfl ?_
        refine wpS_seq ?_
        refine wpS_region ?_
        refine s_y (v := .bool false) (y_assign rfl) rfl ?_
        refine wpL_nil ?_
        refine thenS_n ?_
        refine wpS_ret ?_
        refine thenS_r ?_
        refine blockS_r ?_
        refine thenS_r ?_
        refine thenS_r ?_
        refine blockS_r ?_
        refine thenS_r ?_
        refine fin1 (v := .bool false) (.inr rfl) (.nil) Try.results181 rfl ?_
        exact fun w' hs => ⟨congrArg (fun b : Bool => Ending.returned (.bool b)) ((part_no (i := i) (by omega) (by first | exact op_noR (by omega) | exact op_no3 (by omega) (by omega))).symm), hs⟩
       ·
        have p9 := of_decide_eq_false b9
        refine s_gy (y_fieldAddr (o' := 3) rfl Try.underlying86 rfl Try.sizeOf3 (by decide) rfl) rfl rfl rfl rfl (b' := decide ((8 : Int) ≤ ((l.getD i default).o2))) rfl b9 ?_
        refine s_gy (y_load1 rfl Try.isAgg3 (own1 .h rfl)) rfl rfl rfl rfl (b' := decide ((8 : Int) ≤ ((l.getD i default).o2))) rfl b9 ?_
        refine s_gy (y_lss (a := (l.getD i default).o3) (b := 0) rfl rfl rfl) rfl rfl rfl rfl (b' := decide ((8 : Int) ≤ ((l.getD i default).o2))) rfl b9 ?_
        refine s_y (v := .bool (decide (((l.getD i default).o3 : Int) < 0))) (y_pickF (b := decide ((8 : Int) ≤ ((l.getD i default).o2))) rfl b9 rfl) rfl ?_
        refine s_y (v := .bool (decide (((l.getD i default).o3 : Int) < 0))) (y_move rfl) rfl ?_
        rcases Bool.eq_false_or_eq_true (decide (((l.getD i default).o3 : Int) < 0)) with b10 | b10
        ·
         have p10 := of_decide_eq_true b10
         refine s_no rfl rfl rfl rfl (b' := decide (((l.getD i default).o3 : Int) < 0)) rfl b10 ?_
         refine s_no rfl rfl rfl rfl (b' := decide (((l.getD i default).o3 : Int) < 0)) rfl b10 ?_
         refine s_no rfl rfl rfl rfl (b' := decide (((l.getD i default).o3 : Int) < 0)) rfl b10 ?_
         refine s_y (v := .bool true) (y_pickT (b := decide (((l.getD i default).o3 : Int) < 0)) rfl b10 rfl) rfl ?_
         refine s_y (v := .bool true) (y_move rfl) rfl ?_
         refine s_no rfl rfl rfl rfl rfl rfl ?_
         refine s_no rfl rfl rfl rfl rfl rfl ?_
         refine s_no rfl rfl rfl rfl rfl rfl ?_
         refine s_y (v := .bool true) (y_pickT rfl rfl rfl) rfl ?_
         refine s_y (v := .bool true) (y_move rfl) rfl ?_
         refine s_no rfl rfl rfl rfl rfl rfl ?_
         refine s_no rfl rfl rfl rfl rfl rfl ?_
         refine s_no rfl rfl rfl rfl rfl rfl ?_
         refine s_y (v := .bool true) (y_pickT rfl rfl rfl) rfl ?_
         refine wpL_nil ?_
         refine thenS_n ?_
         refine wpS_cond_t rfl ?_
         refine wpS_seq ?_
         refine wpS_region ?_
         refine s_y (v := .bool false) (y_assign rfl) rfl ?_
         refine wpL_nil ?_
         refine thenS_n ?_
         refine wpS_ret ?_
         refine thenS_r ?_
         refine blockS_r ?_
         refine thenS_r ?_
         refine thenS_r ?_
         refine blockS_r ?_
         refine thenS_r ?_
         refine fin1 (v := .bool false) (.inr rfl) (.nil) Try.results181 rfl ?_
         exact fun w' hs => ⟨congrArg (fun b : Bool => Ending.returned (.bool b)) ((part_no (i := i) (by omega) (by first | exact op_noR (by omega) | exact op_no3 (by omega) (by omega))).symm), hs⟩
        ·
         have p10 := of_decide_eq_false b10
         refine s_gy (y_fieldAddr (o' := 3) rfl Try.underlying86 rfl Try.sizeOf3 (by decide) rfl) rfl rfl rfl rfl (b' := decide (((l.getD i default).o3 : Int) < 0)) rfl b10 ?_
         refine s_gy (y_load1 rfl Try.isAgg3 (own1 .h rfl)) rfl rfl rfl rfl (b' := decide (((l.getD i default).o3 : Int) < 0)) rfl b10 ?_
         refine s_gy (y_geq (a := (l.getD i default).o3) (b := 8) rfl rfl rfl) rfl rfl rfl rfl (b' := decide (((l.getD i default).o3 : Int) < 0)) rfl b10 ?_
         refine s_y (v := .bool (decide ((8 : Int) ≤ ((l.getD i default).o3)))) (y_pickF (b := decide (((l.getD i default).o3 : Int) < 0)) rfl b10 rfl) rfl ?_
         refine s_y (v := .bool (decide ((8 : Int) ≤ ((l.getD i default).o3)))) (y_move rfl) rfl ?_
         rcases Bool.eq_false_or_eq_true (decide ((8 : Int) ≤ ((l.getD i default).o3))) with b11 | b11
         ·
          have p11 := of_decide_eq_true b11
          refine s_no rfl rfl rfl rfl (b' := decide ((8 : Int) ≤ ((l.getD i default).o3))) rfl b11 ?_
          refine s_no rfl rfl rfl rfl (b' := decide ((8 : Int) ≤ ((l.getD i default).o3))) rfl b11 ?_
          refine s_no rfl rfl rfl rfl (b' := decide ((8 : Int) ≤ ((l.getD i default).o3))) rfl b11 ?_
          refine s_y (v := .bool true) (y_pickT (b := decide ((8 : Int) ≤ ((l.getD i default).o3))) rfl b11 rfl) rfl ?_
          refine s_y (v := .bool true) (y_move rfl) rfl ?_
          refine s_no rfl rfl rfl rfl rfl rfl ?_
          refine s_no rfl rfl rfl rfl rfl rfl ?_
          refine s_no rfl rfl rfl rfl rfl rfl ?_
          refine s_y (v := .bool true) (y_pickT rfl rfl rfl) rfl ?_
          refine wpL_nil ?_
          refine thenS_n ?_
          refine wpS_cond_t rfl ?_
          refine wpS_seq ?_
          refine wpS_region ?_
          refine s_y (v := .bool false) (y_assign rfl) rfl ?_
          refine wpL_nil ?_
          refine thenS_n ?_
          refine wpS_ret ?_
          refine thenS_r ?_
          refine blockS_r ?_
          refine thenS_r ?_
          refine thenS_r ?_
          refine blockS_r ?_
          refine thenS_r ?_
          refine fin1 (v := .bool false) (.inr rfl) (.nil) Try.results181 rfl ?_
          exact fun w' hs => ⟨congrArg (fun b : Bool => Ending.returned (.bool b)) ((part_no (i := i) (by omega) (by first | exact op_noR (by omega) | exact op_no3 (by omega) (by omega))).symm), hs⟩
         ·
          have p11 := of_decide_eq_false b11
          refine s_gy (y_fieldAddr (o' := 4) rfl Try.underlying86 rfl Try.sizeOf3 (by decide) rfl) rfl rfl rfl rfl (b' := decide ((8 : Int) ≤ ((l.getD i default).o3))) rfl b11 ?_
          refine s_gy (y_load1 rfl Try.isAgg3 (own1 .h rfl)) rfl rfl rfl rfl (b' := decide ((8 : Int) ≤ ((l.getD i default).o3))) rfl b11 ?_
          refine s_gy (y_lss (a := (l.getD i default).o4) (b := 0) rfl rfl rfl) rfl rfl rfl rfl (b' := decide ((8 : Int) ≤ ((l.getD i default).o3))) rfl b11 ?_
          refine s_y (v := .bool (decide (((l.getD i default).o4 : Int) < 0))) (y_pickF (b := decide ((8 : Int) ≤ ((l.getD i default).o3))) rfl b11 rfl) rfl ?_
          refine s_y (v := .bool (decide (((l.getD i default).o4 : Int) < 0))) (y_move rfl) rfl ?_
          rcases Bool.eq_false_or_eq_true (decide (((l.getD i default).o4 : Int) < 0)) with b12 | b12
          ·
           have p12 := of_decide_eq_true b12
           refine s_no rfl rfl rfl rfl (b' := decide (((l.getD i default).o4 : Int) < 0)) rfl b12 ?_
           refine s_no rfl rfl rfl rfl (b' := decide (((l.getD i default).o4 : Int) < 0)) rfl b12 ?_
           refine s_no rfl rfl rfl rfl (b' := decide (((l.getD i default).o4 : Int) < 0)) rfl b12 ?_
           refine s_y (v := .bool true) (y_pickT (b := decide (((l.getD i default).o4 : Int) < 0)) rfl b12 rfl) rfl ?_
           refine wpL_nil ?_
           refine thenS_n ?_
           refine wpS_cond_t rfl ?_
           refine wpS_seq ?_
           refine wpS_region ?_
           refine s_y (v := .bool false) (y_assign rfl) rfl ?_
           refine wpL_nil ?_
           refine thenS_n ?_
           refine wpS_ret ?_
           refine thenS_r ?_
           refine blockS_r ?_
           refine thenS_r ?_
           refine thenS_r ?_
           refine blockS_r ?_
           refine thenS_r ?_
           refine fin1 (v := .bool false) (.inr rfl) (.nil) Try.results181 rfl ?_
           exact fun w' hs => ⟨congrArg (fun b : Bool => Ending.returned (.bool b)) ((part_no (i := i) (by omega) (by first | exact op_noR (by omega) | exact op_no3 (by omega) (by omega))).symm), hs⟩
          ·
           have p12 := of_decide_eq_false b12
           refine s_gy (y_fieldAddr (o' := 4) rfl Try.underlying86 rfl Try.sizeOf3 (by decide) rfl) rfl rfl rfl rfl (b' := decide (((l.getD i default).o4 : Int) < 0)) rfl b12 ?_
           refine s_gy (y_load1 rfl Try.isAgg3 (own1 .h rfl)) rfl rfl rfl rfl (b' := decide (((l.getD i default).o4 : Int) < 0)) rfl b12 ?_
           refine s_gy (y_geq (a := (l.getD i default).o4) (b := 8) rfl rfl rfl) rfl rfl rfl rfl (b' := decide (((l.getD i default).o4 : Int) < 0)) rfl b12 ?_
           refine s_y (v := .bool (decide ((8 : Int) ≤ ((l.getD i default).o4)))) (y_pickF (b := decide (((l.getD i default).o4 : Int) < 0)) rfl b12 rfl) rfl ?_
           refine wpL_nil ?_
           refine thenS_n ?_
           refine wpS_cond (t := decide ((8 : Int) ≤ ((l.getD i default).o4))) rfl (fun b13 => ?_) (fun b13 => ?_)
           ·
            have p13 := of_decide_eq_true b13
            refine wpS_seq ?_
            refine wpS_region ?_
            refine s_y (v := .bool false) (y_assign rfl) rfl ?_
            refine wpL_nil ?_
            refine thenS_n ?_
            refine wpS_ret ?_
            refine thenS_r ?_
            refine blockS_r ?_
            refine thenS_r ?_
            refine thenS_r ?_
            refine blockS_r ?_
            refine thenS_r ?_
            refine fin1 (v := .bool false) (.inr rfl) (.nil) Try.results181 rfl ?_
            exact fun w' hs => ⟨congrArg (fun b : Bool => Ending.returned (.bool b)) ((part_no (i := i) (by omega) (by first | exact op_noR (by omega) | exact op_no3 (by omega) (by omega))).symm), hs⟩
           ·
            have p13 := of_decide_eq_false b13
            refine wpS_skip ?_
            refine thenS_n ?_
            refine wpS_seq ?_
            refine wpS_region ?_
            refine s_y (v := .pointer (some ⟨b_3, 0, none⟩)) (y_fieldAddr (o' := 0) rfl Try.underlying86 rfl Try.sizeOf3 (by decide) rfl) rfl ?_
            refine s_y (v := .int .i64 ((l.getD i default).o0)) (y_load1 rfl Try.isAgg3 (own1 .h rfl)) rfl ?_
            refine s_y (v := .bool (decide (((l.getD i default).o0 : Int) = 12))) (y_eql (a := (l.getD i default).o0) (b := 12) rfl rfl rfl) rfl ?_
            refine s_y (v := .bool (decide (((l.getD i default).o0 : Int) = 12))) (y_move rfl) rfl ?_
            rcases Bool.eq_false_or_eq_true (decide (((l.getD i default).o0 : Int) = 12)) with b14 | b14
            ·
             have p14 := of_decide_eq_true b14
             refine s_gy (y_fieldAddr (o' := 5) rfl Try.underlying86 rfl Try.sizeOf2 (by decide) rfl) rfl rfl rfl rfl (b' := decide (((l.getD i default).o0 : Int) = 12)) rfl b14 ?_
             refine s_gy (y_load1 rfl Try.isAgg2 (own1 .h rfl)) rfl rfl rfl rfl (b' := decide (((l.getD i default).o0 : Int) = 12)) rfl b14 ?_
             refine s_gy (y_lss (a := ((l.getD i default).o5).toInt) (b := 0) rfl rfl rfl) rfl rfl rfl rfl (b' := decide (((l.getD i default).o0 : Int) = 12)) rfl b14 ?_
             refine s_gy (y_move rfl) rfl rfl rfl rfl (b' := decide (((l.getD i default).o0 : Int) = 12)) rfl b14 ?_
             rcases Bool.eq_false_or_eq_true (decide ((((l.getD i default).o5).toInt : Int) < 0)) with b15 | b15
             ·
              have p15 := of_decide_eq_true b15
              refine s_no rfl rfl rfl rfl (b' := decide ((((l.getD i default).o5).toInt : Int) < 0)) rfl b15 ?_
              refine s_no rfl rfl rfl rfl (b' := decide ((((l.getD i default).o5).toInt : Int) < 0)) rfl b15 ?_
              refine s_no rfl rfl rfl rfl (b' := decide ((((l.getD i default).o5).toInt : Int) < 0)) rfl b15 ?_
              refine s_no rfl rfl rfl rfl (b' := decide ((((l.getD i default).o5).toInt : Int) < 0)) rfl b15 ?_
              refine s_gy (y_pickT (b := decide ((((l.getD i default).o5).toInt : Int) < 0)) (v := .bool true) rfl b15 rfl) rfl rfl rfl rfl (b' := decide (((l.getD i default).o0 : Int) = 12)) rfl b14 ?_
              refine s_y (v := .bool true) (y_pickT (b := decide (((l.getD i default).o0 : Int) = 12)) rfl b14 rfl) rfl ?_
              refine wpL_nil ?_
              refine thenS_n ?_
              refine wpS_cond_t rfl ?_
              refine wpS_seq ?_
              refine wpS_region ?_
              refine s_y (v := .bool false) (y_assign rfl) rfl ?_
              refine wpL_nil ?_
              refine thenS_n ?_
              refine wpS_ret ?_
              refine blockS_r ?_
              refine thenS_r ?_
              refine thenS_r ?_
              refine blockS_r ?_
              refine thenS_r ?_
              refine fin1 (v := .bool false) (.inr rfl) (.nil) Try.results181 rfl ?_
              exact fun w' hs => ⟨congrArg (fun b : Bool => Ending.returned (.bool b)) ((part_no (i := i) (by omega) (by first | exact op_noR (by omega) | exact op_no3 (by omega) (by omega))).symm), hs⟩
             ·
              have p15 := of_decide_eq_false b15
              refine s_gy (y_fieldAddr (o' := 5) rfl Try.underlying86 rfl Try.sizeOf2 (by decide) rfl) rfl rfl rfl rfl (b' := decide ((((l.getD i default).o5).toInt : Int) < 0)) rfl b15 ?_
              refine s_gy (y_load1 rfl Try.isAgg2 (own1 .h rfl)) rfl rfl rfl rfl (b' := decide ((((l.getD i default).o5).toInt : Int) < 0)) rfl b15 ?_
              refine s_gy (y_move h1_1) rfl rfl rfl rfl (b' := decide ((((l.getD i default).o5).toInt : Int) < 0)) rfl b15 ?_
              refine s_gy (y_geq (a := ((l.getD i default).o5).toInt) (b := k) rfl rfl rfl) rfl rfl rfl rfl (b' := decide ((((l.getD i default).o5).toInt : Int) < 0)) rfl b15 ?_
              refine s_gy (y_pickF (b := decide ((((l.getD i default).o5).toInt : Int) < 0)) (v := .bool (decide ((k : Int) ≤ (((l.getD i default).o5).toInt)))) rfl b15 rfl) rfl rfl rfl rfl (b' := decide (((l.getD i default).o0 : Int) = 12)) rfl b14 ?_
              refine s_y (v := .bool (decide ((k : Int) ≤ (((l.getD i default).o5).toInt)))) (y_pickT (b := decide (((l.getD i default).o0 : Int) = 12)) rfl b14 rfl) rfl ?_
              refine wpL_nil ?_
              refine thenS_n ?_
              refine wpS_cond (t := decide ((k : Int) ≤ (((l.getD i default).o5).toInt))) rfl (fun b16 => ?_) (fun b16 => ?_)
              ·
               have p16 := of_decide_eq_true b16
               refine wpS_seq ?_
               refine wpS_region ?_
               refine s_y (v := .bool false) (y_assign rfl) rfl ?_
               refine wpL_nil ?_
               refine thenS_n ?_
               refine wpS_ret ?_
               refine blockS_r ?_
               refine thenS_r ?_
               refine thenS_r ?_
               refine blockS_r ?_
               refine thenS_r ?_
               refine fin1 (v := .bool false) (.inr rfl) (.nil) Try.results181 rfl ?_
               exact fun w' hs => ⟨congrArg (fun b : Bool => Ending.returned (.bool b)) ((part_no (i := i) (by omega) (by first | exact op_noR (by omega) | exact op_no3 (by omega) (by omega))).symm), hs⟩
              ·
               have p16 := of_decide_eq_false b16
               refine wpS_skip ?_
               refine blockS_n ?_
               refine thenS_n ?_
               refine wpS_region ?_
               refine s_y (v := .int .i64 ((i : Nat) : Int)) (y_move h5_1) rfl ?_
               refine s_y (v := .int .i64 (((i + 1) : Nat) : Int)) (y_add (a := ((i : Nat) : Int)) (b := 1) rfl rfl (wI (by omega) (by omega) (by omega))) rfl ?_
               refine s_y (v := .int .i64 (((i + 1) : Nat) : Int)) (y_assign rfl) rfl ?_
               refine wpL_nil ?_
               refine thenS_n ?_
               exact ⟨_, by omega, ⟨(i + 1), rfl, by omega, (all_step (by omega) (by assumption) (op_yesR (by omega) (by omega))), rfl, h0_1, h1_1, rfl, .nil⟩⟩
            ·
             have p14 := of_decide_eq_false b14
             refine s_no rfl rfl rfl rfl (b' := decide (((l.getD i default).o0 : Int) = 12)) rfl b14 ?_
             refine s_no rfl rfl rfl rfl (b' := decide (((l.getD i default).o0 : Int) = 12)) rfl b14 ?_
             refine s_no rfl rfl rfl rfl (b' := decide (((l.getD i default).o0 : Int) = 12)) rfl b14 ?_
             refine s_no rfl rfl rfl rfl (b' := decide (((l.getD i default).o0 : Int) = 12)) rfl b14 ?_
             refine s_nu rfl rfl rfl rfl rfl ?_
             refine s_nu rfl rfl rfl rfl rfl ?_
             refine s_nu rfl rfl rfl rfl rfl ?_
             refine s_nu rfl rfl rfl rfl rfl ?_
             refine s_no rfl rfl rfl rfl (b' := decide (((l.getD i default).o0 : Int) = 12)) rfl b14 ?_
             refine s_y (v := .bool false) (y_pickF (b := decide (((l.getD i default).o0 : Int) = 12)) rfl b14 rfl) rfl ?_
             refine wpL_nil ?_
             refine thenS_n ?_
             refine wpS_cond_f rfl ?_
             refine wpS_skip ?_
             refine blockS_n ?_
             refine thenS_n ?_
             refine wpS_region ?_
             refine s_y (v := .int .i64 ((i : Nat) : Int)) (y_move h5_1) rfl ?_
             refine s_y (v := .int .i64 (((i + 1) : Nat) : Int)) (y_add (a := ((i : Nat) : Int)) (b := 1) rfl rfl (wI (by omega) (by omega) (by omega))) rfl ?_
             refine s_y (v := .int .i64 (((i + 1) : Nat) : Int)) (y_assign rfl) rfl ?_
             refine wpL_nil ?_
             refine thenS_n ?_
             exact ⟨_, by omega, ⟨(i + 1), rfl, by omega, (all_step (by omega) (by assumption) (op_yesR (by omega) (by omega))), rfl, h0_1, h1_1, rfl, .nil⟩⟩
 ·
  have p2 := of_decide_eq_false b2
  refine wpS_exit ?_
  refine thenS_x ?_
  refine thenS_x ?_
  refine blockS_h ?_
  refine thenS_n ?_
  refine wpS_seq ?_
  refine wpS_region ?_
  refine s_y (v := .slice ga gn gc) (y_move h0_1) rfl ?_
  refine s_y (v := .int .i64 ((gn : Nat) : Int)) (y_len (ty' := 0) (at_ := #[]) rfl Try.underlying82) rfl ?_
  refine s_y (v := .bool (decide ((gn : Nat) ≤ 40))) (y_leq (a := ((gn : Nat) : Int)) (b := 40) (c := decide ((gn : Nat) ≤ 40)) rfl rfl (decide_eq_decide.2 (by omega))) rfl ?_
  refine s_y (v := .bool (decide ((gn : Nat) ≤ 40))) (y_assign rfl) rfl ?_
  refine wpL_nil ?_
  refine thenS_n ?_
  refine wpS_ret ?_
  refine fin1 (v := .bool (decide ((gn : Nat) ≤ 40))) (.inr rfl) (.nil) Try.results181 rfl ?_
  exact fun w' hs => ⟨congrArg (fun b : Bool => Ending.returned (.bool b)) ((part_end (i := i) (by omega) (by assumption) (by omega)).symm), hs⟩
theorem rcheck_c (k : Int) (a1 a2 a3 : Option Addr) (n1 c1 n2 c2 n3 c3 : Nat) (l1 l2 l3 : List Opc) (w : World) (hn1 : l1.length = n1) (hr1 : Rds w a1 (l1.flatMap opcV)) (hb1 : n1 ≤ 9223372036854775807) (hn2 : l2.length = n2) (hr2 : Rds w a2 (l2.flatMap opcV)) (hb2 : n2 ≤ 9223372036854775807) (hn3 : l3.length = n3) (hr3 : Rds w a3 (l3.flatMap opcV)) (hb3 : n3 ≤ 9223372036854775807) : Pure Try.prog 93 #[.agg #[.int .i64 k, .slice a1 n1 c1, .slice a2 n2 c2, .slice a3 n3 c3]] w (.int .i64 (chk11 k l1 l2 l3)) := by
 refine calls_S (n := 31) (σ0 := (upd fr0 0 (.agg #[.int .i64 k, .slice a1 n1 c1, .slice a2 n2 c2, .slice a3 n3 c3]))) (D := []) (A := []) Try.func93 rfl Try.ntmps93 rfl (a1_fr _) (SH.start w) ?_
 refine wpS_seq ?_
 refine wpS_region ?_
 refine s_e rfl ?_
 refine e_box (v := .agg #[.int .i64 k, .slice a1 n1 c1, .slice a2 n2 c2, .slice a3 n3 c3]) (l := [.int .i64 k, .slice a1 n1 c1, .slice a2 n2 c2, .slice a3 n3 c3]) rfl rfl ?_
 intro b_1
 refine s_y (v := .int .i64 0) (y_assign rfl) rfl ?_
 refine wpL_nil ?_
 refine thenS_n ?_
 refine wpS_seq ?_
 refine wpS_seq ?_
 refine wpS_region ?_
 refine s_y (v := .pointer (some ⟨b_1, 0, none⟩)) (y_fieldAddr (o' := 0) rfl Try.underlying84 rfl Try.sizeOf3 (by decide) rfl) rfl ?_
 refine s_y (v := .int .i64 k) (y_load1 rfl Try.isAgg3 (own1 .h rfl)) rfl ?_
 refine s_y (v := .bool (decide ((k : Int) < 1))) (y_lss (a := k) (b := 1) rfl rfl rfl) rfl ?_
 refine s_y (v := .bool (decide ((k : Int) < 1))) (y_move rfl) rfl ?_
 rcases Bool.eq_false_or_eq_true (decide ((k : Int) < 1)) with b2 | b2
 ·
  have p2 := of_decide_eq_true b2
  refine s_no rfl rfl rfl rfl (b' := decide ((k : Int) < 1)) rfl b2 ?_
  refine s_no rfl rfl rfl rfl (b' := decide ((k : Int) < 1)) rfl b2 ?_
  refine s_no rfl rfl rfl rfl (b' := decide ((k : Int) < 1)) rfl b2 ?_
  refine s_y (v := .bool true) (y_pickT (b := decide ((k : Int) < 1)) rfl b2 rfl) rfl ?_
  refine s_y (v := .bool true) (y_move rfl) rfl ?_
  refine s_no rfl rfl rfl rfl rfl rfl ?_
  refine s_no rfl rfl rfl rfl rfl rfl ?_
  refine s_no rfl rfl rfl rfl rfl rfl ?_
  refine s_no rfl rfl rfl rfl rfl rfl ?_
  refine s_no rfl rfl rfl rfl rfl rfl ?_
  refine s_no rfl rfl rfl rfl rfl rfl ?_
  refine s_y (v := .bool true) (y_pickT rfl rfl rfl) rfl ?_
  refine s_y (v := .bool true) (y_move rfl) rfl ?_
  refine s_no rfl rfl rfl rfl rfl rfl ?_
  refine s_no rfl rfl rfl rfl rfl rfl ?_
  refine s_no rfl rfl rfl rfl rfl rfl ?_
  refine s_no rfl rfl rfl rfl rfl rfl ?_
  refine s_y (v := .bool true) (y_pickT rfl rfl rfl) rfl ?_
  refine s_y (v := .bool true) (y_move rfl) rfl ?_
  refine s_no rfl rfl rfl rfl rfl rfl ?_
  refine s_no rfl rfl rfl rfl rfl rfl ?_
  refine s_no rfl rfl rfl rfl rfl rfl ?_
  refine s_no rfl rfl rfl rfl rfl rfl ?_
  refine s_y (v := .bool true) (y_pickT rfl rfl rfl) rfl ?_
  refine wpL_nil ?_
  refine thenS_n ?_
  refine wpS_cond_t rfl ?_
  refine wpS_seq ?_
  refine wpS_region ?_
  refine s_y (v := .int .i64 8) (y_assign rfl) rfl ?_
  refine wpL_nil ?_
  refine thenS_n ?_
  refine wpS_ret ?_
  refine thenS_r ?_
  refine fin1 (v := .int .i64 8) (.inr rfl) (.nil) Try.results93 rfl ?_
  exact fun w' hs => ⟨congrArg (fun z : Int => Ending.returned (.int .i64 z)) ((chk_8 (by first | exact chk_n0 (by omega) | exact chk_n1 (by assumption) | exact chk_n2 (by assumption) | exact chk_n3 (by assumption))).symm), hs⟩
 ·
  have p2 := of_decide_eq_false b2
  refine s_gy (y_fieldAddr (o' := 0) rfl Try.underlying84 rfl Try.sizeOf3 (by decide) rfl) rfl rfl rfl rfl (b' := decide ((k : Int) < 1)) rfl b2 ?_
  refine s_gy (y_load1 rfl Try.isAgg3 (own1 .h rfl)) rfl rfl rfl rfl (b' := decide ((k : Int) < 1)) rfl b2 ?_
  refine s_gy (y_gtr (a := k) (b := 4) rfl rfl rfl) rfl rfl rfl rfl (b' := decide ((k : Int) < 1)) rfl b2 ?_
  refine s_y (v := .bool (decide ((4 : Int) < k))) (y_pickF (b := decide ((k : Int) < 1)) rfl b2 rfl) rfl ?_
  refine s_y (v := .bool (decide ((4 : Int) < k))) (y_move rfl) rfl ?_
  rcases Bool.eq_false_or_eq_true (decide ((4 : Int) < k)) with b3 | b3
  ·
   have p3 := of_decide_eq_true b3
   refine s_no rfl rfl rfl rfl (b' := decide ((4 : Int) < k)) rfl b3 ?_
   refine s_no rfl rfl rfl rfl (b' := decide ((4 : Int) < k)) rfl b3 ?_
   refine s_no rfl rfl rfl rfl (b' := decide ((4 : Int) < k)) rfl b3 ?_
   refine s_no rfl rfl rfl rfl (b' := decide ((4 : Int) < k)) rfl b3 ?_
   refine s_no rfl rfl rfl rfl (b' := decide ((4 : Int) < k)) rfl b3 ?_
   refine s_no rfl rfl rfl rfl (b' := decide ((4 : Int) < k)) rfl b3 ?_
   refine s_y (v := .bool true) (y_pickT (b := decide ((4 : Int) < k)) rfl b3 rfl) rfl ?_
   refine s_y (v := .bool true) (y_move rfl) rfl ?_
   refine s_no rfl rfl rfl rfl rfl rfl ?_
   refine s_no rfl rfl rfl rfl rfl rfl ?_
   refine s_no rfl rfl rfl rfl rfl rfl ?_
   refine s_no rfl rfl rfl rfl rfl rfl ?_
   refine s_y (v := .bool true) (y_pickT rfl rfl rfl) rfl ?_
   refine s_y (v := .bool true) (y_move rfl) rfl ?_
   refine s_no rfl rfl rfl rfl rfl rfl ?_
   refine s_no rfl rfl rfl rfl rfl rfl ?_
   refine s_no rfl rfl rfl rfl rfl rfl ?_
   refine s_no rfl rfl rfl rfl rfl rfl ?_
   refine s_y (v := .bool true) (y_pickT rfl rfl rfl) rfl ?_
   refine wpL_nil ?_
   refine thenS_n ?_
   refine wpS_cond_t rfl ?_
   refine wpS_seq ?_
   refine wpS_region ?_
   refine s_y (v := .int .i64 8) (y_assign rfl) rfl ?_
   refine wpL_nil ?_
   refine thenS_n ?_
   refine wpS_ret ?_
   refine thenS_r ?_
   refine fin1 (v := .int .i64 8) (.inr rfl) (.nil) Try.results93 rfl ?_
   exact fun w' hs => ⟨congrArg (fun z : Int => Ending.returned (.int .i64 z)) ((chk_8 (by first | exact chk_n0 (by omega) | exact chk_n1 (by assumption) | exact chk_n2 (by assumption) | exact chk_n3 (by assumption))).symm), hs⟩
  ·
   have p3 := of_decide_eq_false b3
   refine s_gy (y_fieldAddr (o' := 1) rfl Try.underlying84 rfl Try.sizeOf82 (by decide) rfl) rfl rfl rfl rfl (b' := decide ((4 : Int) < k)) rfl b3 ?_
   refine s_gy (y_load1 rfl Try.isAgg82 (own1 .h rfl)) rfl rfl rfl rfl (b' := decide ((4 : Int) < k)) rfl b3 ?_
   refine s_gy (y_fieldAddr (o' := 0) rfl Try.underlying84 rfl Try.sizeOf3 (by decide) rfl) rfl rfl rfl rfl (b' := decide ((4 : Int) < k)) rfl b3 ?_
   refine s_gy (y_load1 rfl Try.isAgg3 (own1 .h rfl)) rfl rfl rfl rfl (b' := decide ((4 : Int) < k)) rfl b3 ?_
   refine s_gy (y_call (args := #[.slice a1 n1 c1, .int .i64 k]) (v := .bool (partOk k l1)) Try.call181 (ev2 rfl rfl) (fun w hs => rpart_c a1 n1 c1 l1 k w hn1 ((oldR hr1) w hs) (by omega))) rfl rfl rfl rfl (b' := decide ((4 : Int) < k)) rfl b3 ?_
   refine s_gy (y_not (b := partOk k l1) rfl) rfl rfl rfl rfl (b' := decide ((4 : Int) < k)) rfl b3 ?_
   refine s_y (v := .bool (!(partOk k l1))) (y_pickF (b := decide ((4 : Int) < k)) rfl b3 rfl) rfl ?_
   refine s_y (v := .bool (!(partOk k l1))) (y_move rfl) rfl ?_
   rcases Bool.eq_false_or_eq_true (!(partOk k l1)) with b4 | b4
   ·
    have b5 : (partOk k l1) = false := by simpa using b4
    refine s_no rfl rfl rfl rfl (b' := !(partOk k l1)) rfl b4 ?_
    refine s_no rfl rfl rfl rfl (b' := !(partOk k l1)) rfl b4 ?_
    refine s_no rfl rfl rfl rfl (b' := !(partOk k l1)) rfl b4 ?_
    refine s_no rfl rfl rfl rfl (b' := !(partOk k l1)) rfl b4 ?_
    refine s_y (v := .bool true) (y_pickT (b := !(partOk k l1)) rfl b4 rfl) rfl ?_
    refine s_y (v := .bool true) (y_move rfl) rfl ?_
    refine s_no rfl rfl rfl rfl rfl rfl ?_
    refine s_no rfl rfl rfl rfl rfl rfl ?_
    refine s_no rfl rfl rfl rfl rfl rfl ?_
    refine s_no rfl rfl rfl rfl rfl rfl ?_
    refine s_y (v := .bool true) (y_pickT rfl rfl rfl) rfl ?_
    refine wpL_nil ?_
    refine thenS_n ?_
    refine wpS_cond_t rfl ?_
    refine wpS_seq ?_
    refine wpS_region ?_
    refine s_y (v := .int .i64 8) (y_assign rfl) rfl ?_
    refine wpL_nil ?_
    refine thenS_n ?_
    refine wpS_ret ?_
    refine thenS_r ?_
    refine fin1 (v := .int .i64 8) (.inr rfl) (.nil) Try.results93 rfl ?_
    exact fun w' hs => ⟨congrArg (fun z : Int => Ending.returned (.int .i64 z)) ((chk_8 (by first | exact chk_n0 (by omega) | exact chk_n1 (by assumption) | exact chk_n2 (by assumption) | exact chk_n3 (by assumption))).symm), hs⟩
   ·
    have b6 : (partOk k l1) = true := by simpa using b4
    refine s_gy (y_fieldAddr (o' := 2) rfl Try.underlying84 rfl Try.sizeOf82 (by decide) rfl) rfl rfl rfl rfl (b' := !(partOk k l1)) rfl b4 ?_
    refine s_gy (y_load1 rfl Try.isAgg82 (own1 .h rfl)) rfl rfl rfl rfl (b' := !(partOk k l1)) rfl b4 ?_
    refine s_gy (y_call (args := #[.slice a2 n2 c2, .int .i64 0]) (v := .bool (partOk 0 l2)) Try.call181 (ev2 rfl rfl) (fun w hs => rpart_c a2 n2 c2 l2 0 w hn2 ((oldR hr2) w hs) (by omega))) rfl rfl rfl rfl (b' := !(partOk k l1)) rfl b4 ?_
    refine s_gy (y_not (b := partOk 0 l2) rfl) rfl rfl rfl rfl (b' := !(partOk k l1)) rfl b4 ?_
    refine s_y (v := .bool (!(partOk 0 l2))) (y_pickF (b := !(partOk k l1)) rfl b4 rfl) rfl ?_
    refine s_y (v := .bool (!(partOk 0 l2))) (y_move rfl) rfl ?_
    rcases Bool.eq_false_or_eq_true (!(partOk 0 l2)) with b7 | b7
    ·
     have b8 : (partOk 0 l2) = false := by simpa using b7
     refine s_no rfl rfl rfl rfl (b' := !(partOk 0 l2)) rfl b7 ?_
     refine s_no rfl rfl rfl rfl (b' := !(partOk 0 l2)) rfl b7 ?_
     refine s_no rfl rfl rfl rfl (b' := !(partOk 0 l2)) rfl b7 ?_
     refine s_no rfl rfl rfl rfl (b' := !(partOk 0 l2)) rfl b7 ?_
     refine s_y (v := .bool true) (y_pickT (b := !(partOk 0 l2)) rfl b7 rfl) rfl ?_
     refine wpL_nil ?_
     refine thenS_n ?_
     refine wpS_cond_t rfl ?_
     refine wpS_seq ?_
     refine wpS_region ?_
     refine s_y (v := .int .i64 8) (y_assign rfl) rfl ?_
     refine wpL_nil ?_
     refine thenS_n ?_
     refine wpS_ret ?_
     refine thenS_r ?_
     refine fin1 (v := .int .i64 8) (.inr rfl) (.nil) Try.results93 rfl ?_
     exact fun w' hs => ⟨congrArg (fun z : Int => Ending.returned (.int .i64 z)) ((chk_8 (by first | exact chk_n0 (by omega) | exact chk_n1 (by assumption) | exact chk_n2 (by assumption) | exact chk_n3 (by assumption))).symm), hs⟩
    ·
     have b9 : (partOk 0 l2) = true := by simpa using b7
     refine s_gy (y_fieldAddr (o' := 3) rfl Try.underlying84 rfl Try.sizeOf82 (by decide) rfl) rfl rfl rfl rfl (b' := !(partOk 0 l2)) rfl b7 ?_
     refine s_gy (y_load1 rfl Try.isAgg82 (own1 .h rfl)) rfl rfl rfl rfl (b' := !(partOk 0 l2)) rfl b7 ?_
     refine s_gy (y_call (args := #[.slice a3 n3 c3, .int .i64 0]) (v := .bool (partOk 0 l3)) Try.call181 (ev2 rfl rfl) (fun w hs => rpart_c a3 n3 c3 l3 0 w hn3 ((oldR hr3) w hs) (by omega))) rfl rfl rfl rfl (b' := !(partOk 0 l2)) rfl b7 ?_
     refine s_gy (y_not (b := partOk 0 l3) rfl) rfl rfl rfl rfl (b' := !(partOk 0 l2)) rfl b7 ?_
     refine s_y (v := .bool (!(partOk 0 l3))) (y_pickF (b := !(partOk 0 l2)) rfl b7 rfl) rfl ?_
     refine wpL_nil ?_
     refine thenS_n ?_
     refine wpS_cond (t := !(partOk 0 l3)) rfl (fun b10 => ?_) (fun b10 => ?_)
     ·
      have b11 : (partOk 0 l3) = false := by simpa using b10
      refine wpS_seq ?_
      refine wpS_region ?_
      refine s_y (v := .int .i64 8) (y_assign rfl) rfl ?_
      refine wpL_nil ?_
      refine thenS_n ?_
      refine wpS_ret ?_
      refine thenS_r ?_
      refine fin1 (v := .int .i64 8) (.inr rfl) (.nil) Try.results93 rfl ?_
      exact fun w' hs => ⟨congrArg (fun z : Int => Ending.returned (.int .i64 z)) ((chk_8 (by first | exact chk_n0 (by omega) | exact chk_n1 (by assumption) | exact chk_n2 (by assumption) | exact chk_n3 (by assumption))).symm), hs⟩
     ·
      have b12 : (partOk 0 l3) = true := by simpa using b10
      refine wpS_skip ?_
      refine thenS_n ?_
      refine wpS_seq ?_
      refine wpS_region ?_
      refine s_y (v := .int .i64 0) (y_assign rfl) rfl ?_
      refine wpL_nil ?_
      refine thenS_n ?_
      refine wpS_ret ?_
      refine fin1 (v := .int .i64 0) (.inr rfl) (.nil) Try.results93 rfl ?_
      exact fun w' hs => ⟨congrArg (fun z : Int => Ending.returned (.int .i64 z)) ((chk_0 (chk_all (by omega) (by omega) (by assumption) (by assumption) (by assumption))).symm), hs⟩
theorem jright_ok (pre : List Value) (p0 p1 p2 p3 : Int) (ia : Option Addr) (inn ic : Nat) (lj : List Pr) (m : Nat) (k0 : Int) (a1 a2 a3 : Option Addr) (n1 c1 n2 c2 n3 c3 : Nat) (l1 l2 l3 : List Opc) (w : World) (hpre : pre.length = 33) (hpo : pre.all Value.oneCell' = true) (hmm : 1 + u64of p1 % 2 = m) (hn1 : l1.length = n1) (hr1 : Rds w a1 (l1.flatMap opcV)) (hb1 : n1 ≤ 9223372036854775807) (hn2 : l2.length = n2) (hr2 : Rds w a2 (l2.flatMap opcV)) (hb2 : n2 ≤ 9223372036854775807) (hn3 : l3.length = n3) (hr3 : Rds w a3 (l3.flatMap opcV)) (hb3 : n3 ≤ 9223372036854775807) (hni : lj.length = inn) (hri : Rds w ia (lj.flatMap prV)) (hbi : inn ≤ 9223372036854775807) (hci : inn ≤ ic) (hck : (chkB ((m : Nat) : Int) l1 l2 l3) = true) : Makes Try.prog 134 #[.agg (pj pre [.int .i64 k0, .slice a1 n1 c1, .slice a2 n2 c2, .slice a3 n3 c3, .int .i64 p0, .int .i64 p1, .int .i64 p2, .int .i64 p3, .slice ia inn ic]).toArray] w [] (X := ((Nat × Nat × Nat) × (Option Addr × Nat) × List Pr)) (fun x => .agg (pj pre [.int .i64 ((m : Nat) : Int), .slice a1 n1 c1, .slice a2 n2 c2, .slice a3 n3 c3, .int .i64 ((x.1.1 : Nat) : Int), .int .i64 ((m : Nat) : Int), .int .i64 ((x.1.2.1 : Nat) : Int), .int .i64 ((x.1.2.2 : Nat) : Int), .slice x.2.1.1 x.1.1 x.2.1.2]).toArray) (fun x => [osl x.2.1.1 x.2.1.2 x.1.1 2 89 (x.2.2.flatMap prV)]) (fun x => ok ⟨((x.1.1 : Nat) : Int), ((m : Nat) : Int), ((x.1.2.1 : Nat) : Int), ((x.1.2.2 : Nat) : Int)⟩ = true ∧ x.1.1 ≤ 6 ∧ x.2.2.length = x.1.1) := by
 refine calls_S (n := 124) (σ0 := (upd fr0 0 (.agg (pj pre [.int .i64 k0, .slice a1 n1 c1, .slice a2 n2 c2, .slice a3 n3 c3, .int .i64 p0, .int .i64 p1, .int .i64 p2, .int .i64 p3, .slice ia inn ic]).toArray))) (D := []) (A := []) Try.func134 rfl Try.ntmps134 rfl (a1_fr _) (SH.start w) ?_
 obtain ⟨R0, hR0⟩ : ∃ R0, 1 + u64of p0 % 6 = R0 := ⟨_, rfl⟩
 obtain ⟨S, hS0⟩ : ∃ S, 1 + u64of p2 % 3 = S := ⟨_, rfl⟩
 obtain ⟨Wn, hW0⟩ : ∃ Wn, 1 + u64of p3 % 3 = Wn := ⟨_, rfl⟩
 have hq1 := part_len (chk_bd hck).2.2.1
 have hq2 := part_len (chk_bd hck).2.2.2.1
 have hq3 := part_len (chk_bd hck).2.2.2.2
 refine wpS_seq ?_
 refine wpS_region ?_
 refine s_e rfl ?_
 refine e_box (v := .agg (pj pre [.int .i64 k0, .slice a1 n1 c1, .slice a2 n2 c2, .slice a3 n3 c3, .int .i64 p0, .int .i64 p1, .int .i64 p2, .int .i64 p3, .slice ia inn ic]).toArray) (l := (pj pre [.int .i64 k0, .slice a1 n1 c1, .slice a2 n2 c2, .slice a3 n3 c3, .int .i64 p0, .int .i64 p1, .int .i64 p2, .int .i64 p3, .slice ia inn ic])) rfl rfl ?_
 intro b_1
 refine s_e rfl ?_
 refine e_alloc (l := zJob) Try.zeroValue155 rfl ?_
 intro b_2
 refine wpL_nil ?_
 refine thenS_n ?_
 refine wpS_seq ?_
 refine wpS_region ?_
 refine s_y (v := .pointer (some ⟨b_1, 37, none⟩)) (y_fieldAddr (o' := 37) rfl Try.underlying155 rfl Try.sizeOf53 (by decide) rfl) rfl ?_
 refine s_y (v := .pointer (some ⟨b_1, 37, none⟩)) (y_fieldAddr (o' := 37) rfl Try.underlying53 rfl Try.sizeOf3 (by decide) rfl) rfl ?_
 refine s_y (v := .int .i64 p0) (y_load1 rfl Try.isAgg3 (own1 (.t .h) (pre_get 4 hpre rfl))) rfl ?_
 refine s_y (v := .int .u64 (((u64of p0) : Nat) : Int)) (y_convI (a := p0) rfl Try.underlying3 Try.underlying46 (u64of_wrap _)) rfl ?_
 refine s_y (v := .int .u64 ((((u64of p0) % 6) : Nat) : Int)) (y_rem (a := (((u64of p0) : Nat) : Int)) (b := 6) rfl rfl (by omega) (n_rem _ 6 (by omega))) rfl ?_
 refine s_y (v := .int .i64 ((((u64of p0) % 6) : Nat) : Int)) (y_convI (a := ((((u64of p0) % 6) : Nat) : Int)) rfl Try.underlying46 Try.underlying3 (wI rfl (by omega) (by omega))) rfl ?_
 refine s_y (v := .int .i64 ((R0 : Nat) : Int)) (y_add (a := 1) (b := ((((u64of p0) % 6) : Nat) : Int)) rfl rfl (wI (by omega) (by omega) (by omega))) rfl ?_
 refine s_y (v := .pointer (some ⟨b_1, 37, none⟩)) (y_fieldAddr (o' := 37) rfl Try.underlying155 rfl Try.sizeOf53 (by decide) rfl) rfl ?_
 refine s_y (v := .pointer (some ⟨b_1, 37, none⟩)) (y_fieldAddr (o' := 37) rfl Try.underlying53 rfl Try.sizeOf3 (by decide) rfl) rfl ?_
 refine s_e0 ?_
 refine e_store (vs := [.int .i64 ((R0 : Nat) : Int)]) (l' := (pj pre [.int .i64 k0, .slice a1 n1 c1, .slice a2 n2 c2, .slice a3 n3 c3, .int .i64 ((R0 : Nat) : Int), .int .i64 p1, .int .i64 p2, .int .i64 p3, .slice ia inn ic])) rfl rfl rfl rfl Try.sizeOf3 (.t .h) (pre_fit 4 hpre (Nat.le_of_ble_eq_true rfl)) (pre_set 4 hpre rfl) ?_
 refine wpL_nil ?_
 refine thenS_n ?_
 refine wpS_seq ?_
 refine wpS_region ?_
 refine s_y (v := .pointer (some ⟨b_1, 37, none⟩)) (y_fieldAddr (o' := 37) rfl Try.underlying155 rfl Try.sizeOf53 (by decide) rfl) rfl ?_
 refine s_y (v := .pointer (some ⟨b_1, 38, none⟩)) (y_fieldAddr (o' := 38) rfl Try.underlying53 rfl Try.sizeOf3 (by decide) rfl) rfl ?_
 refine s_y (v := .int .i64 p1) (y_load1 rfl Try.isAgg3 (own1 .h (pre_get 5 hpre rfl))) rfl ?_
 refine s_y (v := .int .u64 (((u64of p1) : Nat) : Int)) (y_convI (a := p1) rfl Try.underlying3 Try.underlying46 (u64of_wrap _)) rfl ?_
 refine s_y (v := .int .u64 ((((u64of p1) % 2) : Nat) : Int)) (y_rem (a := (((u64of p1) : Nat) : Int)) (b := 2) rfl rfl (by omega) (n_rem _ 2 (by omega))) rfl ?_
 refine s_y (v := .int .i64 ((((u64of p1) % 2) : Nat) : Int)) (y_convI (a := ((((u64of p1) % 2) : Nat) : Int)) rfl Try.underlying46 Try.underlying3 (wI rfl (by omega) (by omega))) rfl ?_
 refine s_y (v := .int .i64 ((m : Nat) : Int)) (y_add (a := 1) (b := ((((u64of p1) % 2) : Nat) : Int)) rfl rfl (wI (by omega) (by omega) (by omega))) rfl ?_
 refine s_y (v := .pointer (some ⟨b_1, 37, none⟩)) (y_fieldAddr (o' := 37) rfl Try.underlying155 rfl Try.sizeOf53 (by decide) rfl) rfl ?_
 refine s_y (v := .pointer (some ⟨b_1, 38, none⟩)) (y_fieldAddr (o' := 38) rfl Try.underlying53 rfl Try.sizeOf3 (by decide) rfl) rfl ?_
 refine s_e0 ?_
 refine e_store (vs := [.int .i64 ((m : Nat) : Int)]) (l' := (pj pre [.int .i64 k0, .slice a1 n1 c1, .slice a2 n2 c2, .slice a3 n3 c3, .int .i64 ((R0 : Nat) : Int), .int .i64 ((m : Nat) : Int), .int .i64 p2, .int .i64 p3, .slice ia inn ic])) rfl rfl rfl rfl Try.sizeOf3 .h (pre_fit 5 hpre (Nat.le_of_ble_eq_true rfl)) (pre_set 5 hpre rfl) ?_
 refine wpL_nil ?_
 refine thenS_n ?_
 refine wpS_seq ?_
 refine wpS_region ?_
 refine s_y (v := .pointer (some ⟨b_1, 37, none⟩)) (y_fieldAddr (o' := 37) rfl Try.underlying155 rfl Try.sizeOf53 (by decide) rfl) rfl ?_
 refine s_y (v := .pointer (some ⟨b_1, 39, none⟩)) (y_fieldAddr (o' := 39) rfl Try.underlying53 rfl Try.sizeOf3 (by decide) rfl) rfl ?_
 refine s_y (v := .int .i64 p2) (y_load1 rfl Try.isAgg3 (own1 .h (pre_get 6 hpre rfl))) rfl ?_
 refine s_y (v := .int .u64 (((u64of p2) : Nat) : Int)) (y_convI (a := p2) rfl Try.underlying3 Try.underlying46 (u64of_wrap _)) rfl ?_
 refine s_y (v := .int .u64 ((((u64of p2) % 3) : Nat) : Int)) (y_rem (a := (((u64of p2) : Nat) : Int)) (b := 3) rfl rfl (by omega) (n_rem _ 3 (by omega))) rfl ?_
 refine s_y (v := .int .i64 ((((u64of p2) % 3) : Nat) : Int)) (y_convI (a := ((((u64of p2) % 3) : Nat) : Int)) rfl Try.underlying46 Try.underlying3 (wI rfl (by omega) (by omega))) rfl ?_
 refine s_y (v := .int .i64 ((S : Nat) : Int)) (y_add (a := 1) (b := ((((u64of p2) % 3) : Nat) : Int)) rfl rfl (wI (by omega) (by omega) (by omega))) rfl ?_
 refine s_y (v := .pointer (some ⟨b_1, 37, none⟩)) (y_fieldAddr (o' := 37) rfl Try.underlying155 rfl Try.sizeOf53 (by decide) rfl) rfl ?_
 refine s_y (v := .pointer (some ⟨b_1, 39, none⟩)) (y_fieldAddr (o' := 39) rfl Try.underlying53 rfl Try.sizeOf3 (by decide) rfl) rfl ?_
 refine s_e0 ?_
 refine e_store (vs := [.int .i64 ((S : Nat) : Int)]) (l' := (pj pre [.int .i64 k0, .slice a1 n1 c1, .slice a2 n2 c2, .slice a3 n3 c3, .int .i64 ((R0 : Nat) : Int), .int .i64 ((m : Nat) : Int), .int .i64 ((S : Nat) : Int), .int .i64 p3, .slice ia inn ic])) rfl rfl rfl rfl Try.sizeOf3 .h (pre_fit 6 hpre (Nat.le_of_ble_eq_true rfl)) (pre_set 6 hpre rfl) ?_
 refine wpL_nil ?_
 refine thenS_n ?_
 refine wpS_seq ?_
 refine wpS_region ?_
 refine s_y (v := .pointer (some ⟨b_1, 37, none⟩)) (y_fieldAddr (o' := 37) rfl Try.underlying155 rfl Try.sizeOf53 (by decide) rfl) rfl ?_
 refine s_y (v := .pointer (some ⟨b_1, 40, none⟩)) (y_fieldAddr (o' := 40) rfl Try.underlying53 rfl Try.sizeOf3 (by decide) rfl) rfl ?_
 refine s_y (v := .int .i64 p3) (y_load1 rfl Try.isAgg3 (own1 .h (pre_get 7 hpre rfl))) rfl ?_
 refine s_y (v := .int .u64 (((u64of p3) : Nat) : Int)) (y_convI (a := p3) rfl Try.underlying3 Try.underlying46 (u64of_wrap _)) rfl ?_
 refine s_y (v := .int .u64 ((((u64of p3) % 3) : Nat) : Int)) (y_rem (a := (((u64of p3) : Nat) : Int)) (b := 3) rfl rfl (by omega) (n_rem _ 3 (by omega))) rfl ?_
 refine s_y (v := .int .i64 ((((u64of p3) % 3) : Nat) : Int)) (y_convI (a := ((((u64of p3) % 3) : Nat) : Int)) rfl Try.underlying46 Try.underlying3 (wI rfl (by omega) (by omega))) rfl ?_
 refine s_y (v := .int .i64 ((Wn : Nat) : Int)) (y_add (a := 1) (b := ((((u64of p3) % 3) : Nat) : Int)) rfl rfl (wI (by omega) (by omega) (by omega))) rfl ?_
 refine s_y (v := .pointer (some ⟨b_1, 37, none⟩)) (y_fieldAddr (o' := 37) rfl Try.underlying155 rfl Try.sizeOf53 (by decide) rfl) rfl ?_
 refine s_y (v := .pointer (some ⟨b_1, 40, none⟩)) (y_fieldAddr (o' := 40) rfl Try.underlying53 rfl Try.sizeOf3 (by decide) rfl) rfl ?_
 refine s_e0 ?_
 refine e_store (vs := [.int .i64 ((Wn : Nat) : Int)]) (l' := (pj pre [.int .i64 k0, .slice a1 n1 c1, .slice a2 n2 c2, .slice a3 n3 c3, .int .i64 ((R0 : Nat) : Int), .int .i64 ((m : Nat) : Int), .int .i64 ((S : Nat) : Int), .int .i64 ((Wn : Nat) : Int), .slice ia inn ic])) rfl rfl rfl rfl Try.sizeOf3 .h (pre_fit 7 hpre (Nat.le_of_ble_eq_true rfl)) (pre_set 7 hpre rfl) ?_
 refine wpL_nil ?_
 refine thenS_n ?_
 refine wpS_seq ?_
 refine wpS_block ?_
 refine wpS_loop (fun mez ds σ L => ∃ i : Nat, mez = i ∧ (1 ≤ i) ∧ (i ≤ 6) ∧ ds = [] ∧ σ 1 = .pointer (some ⟨b_1, 0, none⟩) ∧ σ 2 = .pointer (some ⟨b_2, 0, none⟩) ∧ Ent L [cel b_1 155 (pj pre [.int .i64 k0, .slice a1 n1 c1, .slice a2 n2 c2, .slice a3 n3 c3, .int .i64 ((i : Nat) : Int), .int .i64 ((m : Nat) : Int), .int .i64 ((S : Nat) : Int), .int .i64 ((Wn : Nat) : Int), .slice ia inn ic]), cel b_2 155 zJob]) (m0 := R0) ⟨R0, rfl, by omega, by omega, rfl, rfl, rfl, .p .h (.p .h .nil)⟩ ?_
 rintro mez ds σ L ⟨i, hm_3, hf0_3, hf1_3, rfl, h1_3, h2_3, hE_3⟩
 refine wpS_ent hE_3 ?_; clear hE_3
 have hmq := right_le (i := i) (m := m) (S := S) (by omega) (by omega) (by omega) (by omega)
 refine wpS_seq ?_
 refine wpS_seq ?_
 refine wpS_lex (by kernel_rfl) (by kernel_rfl) ?_
 refine x_y (v := .pointer (some ⟨b_1, 37, none⟩)) (y_fieldAddr (o' := 37) h1_3 Try.underlying155 rfl Try.sizeOf53 (by decide) rfl) rfl ?_
 refine x_y (v := .pointer (some ⟨b_1, 38, none⟩)) (y_fieldAddr (o' := 38) rfl Try.underlying53 rfl Try.sizeOf3 (by decide) rfl) rfl ?_
 refine x_y (v := .int .i64 ((m : Nat) : Int)) (y_load1 rfl Try.isAgg3 (own1 .h (pre_get 5 hpre rfl))) rfl ?_
 refine x_y (v := .pointer (some ⟨b_1, 37, none⟩)) (y_fieldAddr (o' := 37) h1_3 Try.underlying155 rfl Try.sizeOf53 (by decide) rfl) rfl ?_
 refine x_y (v := .pointer (some ⟨b_1, 37, none⟩)) (y_fieldAddr (o' := 37) rfl Try.underlying53 rfl Try.sizeOf3 (by decide) rfl) rfl ?_
 refine x_y (v := .int .i64 ((i : Nat) : Int)) (y_load1 rfl Try.isAgg3 (own1 .h (pre_get 4 hpre rfl))) rfl ?_
 refine x_y (v := .pointer (some ⟨b_1, 37, none⟩)) (y_fieldAddr (o' := 37) h1_3 Try.underlying155 rfl Try.sizeOf53 (by decide) rfl) rfl ?_
 refine x_y (v := .pointer (some ⟨b_1, 39, none⟩)) (y_fieldAddr (o' := 39) rfl Try.underlying53 rfl Try.sizeOf3 (by decide) rfl) rfl ?_
 refine x_y (v := .int .i64 ((S : Nat) : Int)) (y_load1 rfl Try.isAgg3 (own1 .h (pre_get 6 hpre rfl))) rfl ?_
 refine x_y (v := .int .i64 (((i + S) : Nat) : Int)) (y_add (a := ((i : Nat) : Int)) (b := ((S : Nat) : Int)) rfl rfl (wI (by omega) (by omega) (by omega))) rfl ?_
 refine x_y (v := .int .i64 ((((i + S) - 1) : Nat) : Int)) (y_sub (a := (((i + S) : Nat) : Int)) (b := 1) rfl rfl (wI (by omega) (by omega) (by omega))) rfl ?_
 refine x_y (v := .pointer (some ⟨b_1, 37, none⟩)) (y_fieldAddr (o' := 37) h1_3 Try.underlying155 rfl Try.sizeOf53 (by decide) rfl) rfl ?_
 refine x_y (v := .pointer (some ⟨b_1, 39, none⟩)) (y_fieldAddr (o' := 39) rfl Try.underlying53 rfl Try.sizeOf3 (by decide) rfl) rfl ?_
 refine x_y (v := .int .i64 ((S : Nat) : Int)) (y_load1 rfl Try.isAgg3 (own1 .h (pre_get 6 hpre rfl))) rfl ?_
 refine x_y (v := .int .i64 (((((i + S) - 1) / S) : Nat) : Int)) (y_quo (a := ((((i + S) - 1) : Nat) : Int)) (b := ((S : Nat) : Int)) rfl rfl (by omega) (n_quo _ S (by omega) (by omega))) rfl ?_
 refine x_y (v := .int .i64 (((m * (((i + S) - 1) / S)) : Nat) : Int)) (y_mul (a := ((m : Nat) : Int)) (b := (((((i + S) - 1) / S) : Nat) : Int)) rfl rfl (wI (Int.natCast_mul _ _).symm (by omega) (by omega))) rfl ?_
 refine x_y (v := .bool (decide ((7 : Nat) < (m * (((i + S) - 1) / S))))) (y_gtr (a := (((m * (((i + S) - 1) / S)) : Nat) : Int)) (b := 7) (c := decide ((7 : Nat) < (m * (((i + S) - 1) / S)))) rfl rfl (decide_eq_decide.2 (by omega))) rfl ?_
 refine x_nil ?_
 refine thenS_n ?_
 refine wpS_cond (t := decide ((7 : Nat) < (m * (((i + S) - 1) / S)))) rfl (fun b4 => ?_) (fun b4 => ?_)
 ·
  have p4 := of_decide_eq_true b4
  have hi2 := right_ge (i := i) (m := m) (S := S) (by omega) (by omega) (by omega) (by omega)
  refine wpS_skip ?_
  refine thenS_n ?_
  refine wpS_block ?_
  refine wpS_region ?_
  refine s_y (v := .pointer (some ⟨b_1, 37, none⟩)) (y_fieldAddr (o' := 37) h1_3 Try.underlying155 rfl Try.sizeOf53 (by decide) rfl) rfl ?_
  refine s_y (v := .pointer (some ⟨b_1, 37, none⟩)) (y_fieldAddr (o' := 37) rfl Try.underlying53 rfl Try.sizeOf3 (by decide) rfl) rfl ?_
  refine s_y (v := .int .i64 ((i : Nat) : Int)) (y_load1 rfl Try.isAgg3 (own1 .h (pre_get 4 hpre rfl))) rfl ?_
  refine s_y (v := .int .i64 (((i - 1) : Nat) : Int)) (y_sub (a := ((i : Nat) : Int)) (b := 1) rfl rfl (wI (by omega) (by omega) (by omega))) rfl ?_
  refine s_y (v := .pointer (some ⟨b_1, 37, none⟩)) (y_fieldAddr (o' := 37) h1_3 Try.underlying155 rfl Try.sizeOf53 (by decide) rfl) rfl ?_
  refine s_y (v := .pointer (some ⟨b_1, 37, none⟩)) (y_fieldAddr (o' := 37) rfl Try.underlying53 rfl Try.sizeOf3 (by decide) rfl) rfl ?_
  refine s_e0 ?_
  refine e_store (vs := [.int .i64 (((i - 1) : Nat) : Int)]) (l' := (pj pre [.int .i64 k0, .slice a1 n1 c1, .slice a2 n2 c2, .slice a3 n3 c3, .int .i64 (((i - 1) : Nat) : Int), .int .i64 ((m : Nat) : Int), .int .i64 ((S : Nat) : Int), .int .i64 ((Wn : Nat) : Int), .slice ia inn ic])) rfl rfl rfl rfl Try.sizeOf3 .h (pre_fit 4 hpre (Nat.le_of_ble_eq_true rfl)) (pre_set 4 hpre rfl) ?_
  refine wpL_nil ?_
  refine blockS_n ?_
  refine thenS_n ?_
  exact ⟨_, by omega, ⟨(i - 1), rfl, by omega, by omega, rfl, h1_3, h2_3, .p .h (.p .h .nil)⟩⟩
 ·
  have p4 := of_decide_eq_false b4
  refine wpS_exit ?_
  refine thenS_x ?_
  refine thenS_x ?_
  refine blockS_h ?_
  refine thenS_n ?_
  refine wpS_seq ?_
  refine wpS_region ?_
  refine s_y (v := .pointer (some ⟨b_1, 33, none⟩)) (y_fieldAddr (o' := 33) h1_3 Try.underlying155 rfl Try.sizeOf84 (by decide) rfl) rfl ?_
  refine s_y (v := .agg #[.int .i64 k0, .slice a1 n1 c1, .slice a2 n2 c2, .slice a3 n3 c3]) (y_loadN rfl Try.isAgg84 Try.sizeOf84 (ownN .h (pre_getN 0 hpre rfl))) rfl ?_
  refine s_e rfl ?_
  refine e_alloc (l := [.int .i64 0, .slice none 0 0, .slice none 0 0, .slice none 0 0]) Try.zeroValue84 rfl ?_
  intro b_5
  refine s_e0 ?_
  refine e_store (vs := [.int .i64 k0, .slice a1 n1 c1, .slice a2 n2 c2, .slice a3 n3 c3]) (l' := [.int .i64 k0, .slice a1 n1 c1, .slice a2 n2 c2, .slice a3 n3 c3]) rfl rfl rfl rfl Try.sizeOf84 .h (Nat.le_of_ble_eq_true rfl) rfl ?_
  refine wpL_nil ?_
  refine thenS_n ?_
  refine wpS_seq ?_
  refine wpS_region ?_
  refine s_y (v := .pointer (some ⟨b_1, 37, none⟩)) (y_fieldAddr (o' := 37) h1_3 Try.underlying155 rfl Try.sizeOf53 (by decide) rfl) rfl ?_
  refine s_y (v := .pointer (some ⟨b_1, 38, none⟩)) (y_fieldAddr (o' := 38) rfl Try.underlying53 rfl Try.sizeOf3 (by decide) rfl) rfl ?_
  refine s_y (v := .int .i64 ((m : Nat) : Int)) (y_load1 rfl Try.isAgg3 (own1 (.t .h) (pre_get 5 hpre rfl))) rfl ?_
  refine s_y (v := .pointer (some ⟨b_5, 0, none⟩)) (y_fieldAddr (o' := 0) rfl Try.underlying84 rfl Try.sizeOf3 (by decide) rfl) rfl ?_
  refine s_e0 ?_
  refine e_store (vs := [.int .i64 ((m : Nat) : Int)]) (l' := [.int .i64 ((m : Nat) : Int), .slice a1 n1 c1, .slice a2 n2 c2, .slice a3 n3 c3]) rfl rfl rfl rfl Try.sizeOf3 .h (Nat.le_of_ble_eq_true rfl) rfl ?_
  refine wpL_nil ?_
  refine thenS_n ?_
  refine wpS_seq ?_
  refine wpS_seq ?_
  refine wpS_region ?_
  refine s_y (v := .pointer (some ⟨b_5, 1, none⟩)) (y_fieldAddr (o' := 1) rfl Try.underlying84 rfl Try.sizeOf82 (by decide) rfl) rfl ?_
  refine s_y (v := .slice a1 n1 c1) (y_load1 rfl Try.isAgg82 (own1 .h rfl)) rfl ?_
  refine s_y (v := .int .i64 ((n1 : Nat) : Int)) (y_len (ty' := 0) (at_ := #[]) rfl Try.underlying82) rfl ?_
  refine s_y (v := .bool (decide ((60 : Nat) < n1))) (y_gtr (a := ((n1 : Nat) : Int)) (b := 60) (c := decide ((60 : Nat) < n1)) rfl rfl (decide_eq_decide.2 (by omega))) rfl ?_
  refine s_y (v := .bool (decide ((60 : Nat) < n1))) (y_move rfl) rfl ?_
  refine s_gy (y_fieldAddr (o' := 2) rfl Try.underlying84 rfl Try.sizeOf82 (by decide) rfl) rfl rfl rfl rfl (b' := decide ((60 : Nat) < n1)) rfl (decide_eq_false (by omega)) ?_
  refine s_gy (y_load1 rfl Try.isAgg82 (own1 .h rfl)) rfl rfl rfl rfl (b' := decide ((60 : Nat) < n1)) rfl (decide_eq_false (by omega)) ?_
  refine s_gy (y_len (ty' := 0) (at_ := #[]) rfl Try.underlying82) rfl rfl rfl rfl (b' := decide ((60 : Nat) < n1)) rfl (decide_eq_false (by omega)) ?_
  refine s_gy (y_gtr (a := ((n2 : Nat) : Int)) (b := 60) (c := decide ((60 : Nat) < n2)) rfl rfl (decide_eq_decide.2 (by omega))) rfl rfl rfl rfl (b' := decide ((60 : Nat) < n1)) rfl (decide_eq_false (by omega)) ?_
  refine s_y (v := .bool (decide ((60 : Nat) < n2))) (y_pickF (b := decide ((60 : Nat) < n1)) rfl (decide_eq_false (by omega)) rfl) rfl ?_
  refine s_y (v := .bool (decide ((60 : Nat) < n2))) (y_move rfl) rfl ?_
  refine s_gy (y_fieldAddr (o' := 3) rfl Try.underlying84 rfl Try.sizeOf82 (by decide) rfl) rfl rfl rfl rfl (b' := decide ((60 : Nat) < n2)) rfl (decide_eq_false (by omega)) ?_
  refine s_gy (y_load1 rfl Try.isAgg82 (own1 .h rfl)) rfl rfl rfl rfl (b' := decide ((60 : Nat) < n2)) rfl (decide_eq_false (by omega)) ?_
  refine s_gy (y_len (ty' := 0) (at_ := #[]) rfl Try.underlying82) rfl rfl rfl rfl (b' := decide ((60 : Nat) < n2)) rfl (decide_eq_false (by omega)) ?_
  refine s_gy (y_gtr (a := ((n3 : Nat) : Int)) (b := 60) (c := decide ((60 : Nat) < n3)) rfl rfl (decide_eq_decide.2 (by omega))) rfl rfl rfl rfl (b' := decide ((60 : Nat) < n2)) rfl (decide_eq_false (by omega)) ?_
  refine s_y (v := .bool (decide ((60 : Nat) < n3))) (y_pickF (b := decide ((60 : Nat) < n2)) rfl (decide_eq_false (by omega)) rfl) rfl ?_
  refine s_y (v := .bool (decide ((60 : Nat) < n3))) (y_move rfl) rfl ?_
  refine s_gy (y_loadN (vs := [.int .i64 ((m : Nat) : Int), .slice a1 n1 c1, .slice a2 n2 c2, .slice a3 n3 c3]) rfl Try.isAgg84 Try.sizeOf84 (ownN .h rfl)) rfl rfl rfl rfl (b' := decide ((60 : Nat) < n3)) rfl (decide_eq_false (by omega)) ?_
  refine s_gy (y_call (args := #[.agg #[.int .i64 ((m : Nat) : Int), .slice a1 n1 c1, .slice a2 n2 c2, .slice a3 n3 c3]]) (v := .int .i64 (chk11 ((m : Nat) : Int) l1 l2 l3)) Try.call93 (ev1 rfl) (fun w hs => rcheck_c ((m : Nat) : Int) a1 a2 a3 n1 c1 n2 c2 n3 c3 l1 l2 l3 w hn1 ((oldR hr1) w hs) (by omega) hn2 ((oldR hr2) w hs) (by omega) hn3 ((oldR hr3) w hs) (by omega))) rfl rfl rfl rfl (b' := decide ((60 : Nat) < n3)) rfl (decide_eq_false (by omega)) ?_
  refine s_gy (y_neq (a := chk11 ((m : Nat) : Int) l1 l2 l3) (b := 0) rfl rfl rfl) rfl rfl rfl rfl (b' := decide ((60 : Nat) < n3)) rfl (decide_eq_false (by omega)) ?_
  refine s_y (v := .bool (decide ((chk11 ((m : Nat) : Int) l1 l2 l3 : Int) ≠ 0))) (y_pickF (b := decide ((60 : Nat) < n3)) rfl (decide_eq_false (by omega)) rfl) rfl ?_
  refine wpL_nil ?_
  refine thenS_n ?_
  refine wpS_cond_F (t := decide ((chk11 ((m : Nat) : Int) l1 l2 l3 : Int) ≠ 0)) rfl (decide_eq_false (fun h => h (chk_0 hck))) ?_
  refine wpS_skip ?_
  refine thenS_n ?_
  refine wpS_seq ?_
  refine wpS_region ?_
  refine s_y (v := .agg #[.int .i64 ((m : Nat) : Int), .slice a1 n1 c1, .slice a2 n2 c2, .slice a3 n3 c3]) (y_loadN rfl Try.isAgg84 Try.sizeOf84 (ownN .h rfl)) rfl ?_
  refine s_y (v := .pointer (some ⟨b_1, 33, none⟩)) (y_fieldAddr (o' := 33) h1_3 Try.underlying155 rfl Try.sizeOf84 (by decide) rfl) rfl ?_
  refine s_e0 ?_
  refine e_store (vs := [.int .i64 ((m : Nat) : Int), .slice a1 n1 c1, .slice a2 n2 c2, .slice a3 n3 c3]) (l' := (pj pre [.int .i64 ((m : Nat) : Int), .slice a1 n1 c1, .slice a2 n2 c2, .slice a3 n3 c3, .int .i64 ((i : Nat) : Int), .int .i64 ((m : Nat) : Int), .int .i64 ((S : Nat) : Int), .int .i64 ((Wn : Nat) : Int), .slice ia inn ic])) rfl rfl rfl rfl Try.sizeOf84 (.t .h) (pre_fit 0 hpre (Nat.le_of_ble_eq_true rfl)) (pre_set 0 hpre rfl) ?_
  refine wpL_nil ?_
  refine thenS_n ?_
  refine wpS_seq ?_
  refine wpS_region ?_
  refine s_y (v := .pointer (some ⟨b_1, 41, none⟩)) (y_fieldAddr (o' := 41) h1_3 Try.underlying155 rfl Try.sizeOf153 (by decide) rfl) rfl ?_
  refine s_y (v := .slice ia inn ic) (y_load1 rfl Try.isAgg153 (own1 .h (pre_get 8 hpre rfl))) rfl ?_
  refine s_y (v := .pointer (some ⟨b_1, 41, none⟩)) (y_fieldAddr (o' := 41) h1_3 Try.underlying155 rfl Try.sizeOf153 (by decide) rfl) rfl ?_
  refine s_y (v := .slice ia inn ic) (y_load1 rfl Try.isAgg153 (own1 .h (pre_get 8 hpre rfl))) rfl ?_
  refine s_y (v := .int .i64 ((inn : Nat) : Int)) (y_len (ty' := 0) (at_ := #[]) rfl Try.underlying153) rfl ?_
  refine s_y (v := .pointer (some ⟨b_1, 37, none⟩)) (y_fieldAddr (o' := 37) h1_3 Try.underlying155 rfl Try.sizeOf53 (by decide) rfl) rfl ?_
  refine s_y (v := .pointer (some ⟨b_1, 37, none⟩)) (y_fieldAddr (o' := 37) rfl Try.underlying53 rfl Try.sizeOf3 (by decide) rfl) rfl ?_
  refine s_y (v := .int .i64 ((i : Nat) : Int)) (y_load1 rfl Try.isAgg3 (own1 .h (pre_get 4 hpre rfl))) rfl ?_
  refine s_y (v := .int .i64 (((min inn i) : Nat) : Int)) (y_min (a := ((inn : Nat) : Int)) (b := ((i : Nat) : Int)) rfl rfl (by split <;> omega)) rfl ?_
  refine s_y (v := .slice ia (min inn i) ic) (y_sliceH (h' := (min inn i)) rfl rfl Try.underlying153 Try.sizeOf89 (by omega) (by omega) (by omega)) rfl ?_
  refine s_e rfl ?_
  refine OpE.ent (fun w hs => SH.nil0 (sz := 2) (t := 89) w hs) ?_
  refine e_appendL (enc := prV) (xs := ([] : List Pr)) (ns := ((lj.take (min inn i)) : List Pr)) (zs := (lj.take (min inn i))) (bytes := 16) prV_len prV_one Try.underlying153 (i := Try.t89) rfl rfl rfl rfl rfl (by decide) rfl rfl (by first | rfl | omega) (by rw [List.length_take]; omega) .h (rdsT prV_len (min inn i) (oldR hri)) (List.nil_append _) (by rw [List.length_take]; omega) (by rw [List.length_take]; omega) ?_
  intro a_6 c_7
  refine s_y (v := .slice a_6 ((lj.take (min inn i)).length) c_7) (y_assign rfl) rfl ?_
  refine wpL_nil ?_
  refine thenS_n ?_
  refine wpS_seq ?_
  refine wpS_block ?_
  refine wpS_loop (fun mez ds σ L => ∃ q : Nat, ∃ xs : List Pr, ∃ xa : Option Addr, ∃ xc : Nat, mez = i - q ∧ (q ≤ i) ∧ (xs.length = q) ∧ ds = [] ∧ σ 1 = .pointer (some ⟨b_1, 0, none⟩) ∧ σ 2 = .pointer (some ⟨b_2, 0, none⟩) ∧ σ 4 = .slice xa xs.length xc ∧ Ent L [osl xa xc xs.length 2 89 (xs.flatMap prV), cel b_1 155 (pj pre [.int .i64 ((m : Nat) : Int), .slice a1 n1 c1, .slice a2 n2 c2, .slice a3 n3 c3, .int .i64 ((i : Nat) : Int), .int .i64 ((m : Nat) : Int), .int .i64 ((S : Nat) : Int), .int .i64 ((Wn : Nat) : Int), .slice ia inn ic]), cel b_5 84 [.int .i64 ((m : Nat) : Int), .slice a1 n1 c1, .slice a2 n2 c2, .slice a3 n3 c3], cel b_2 155 zJob]) (m0 := i - (lj.take (min inn i)).length) ⟨(lj.take (min inn i)).length, (lj.take (min inn i)), a_6, c_7, rfl, (by rw [List.length_take]; omega), rfl, rfl, h1_3, h2_3, rfl, .p .h (.p .h (.p .h (.p .h .nil)))⟩ ?_
  rintro mez ds σ L ⟨q, xs, xa, xc, hm_8, hf0_8, hf1_8, rfl, h1_8, h2_8, h4_8, hE_8⟩
  refine wpS_ent hE_8 ?_; clear hE_8
  refine wpS_seq ?_
  refine wpS_seq ?_
  refine wpS_region ?_
  refine s_y (v := .slice xa xs.length xc) (y_move h4_8) rfl ?_
  refine s_y (v := .int .i64 ((xs.length : Nat) : Int)) (y_len (ty' := 0) (at_ := #[]) rfl Try.underlying153) rfl ?_
  refine s_y (v := .pointer (some ⟨b_1, 37, none⟩)) (y_fieldAddr (o' := 37) h1_8 Try.underlying155 rfl Try.sizeOf53 (by decide) rfl) rfl ?_
  refine s_y (v := .pointer (some ⟨b_1, 37, none⟩)) (y_fieldAddr (o' := 37) rfl Try.underlying53 rfl Try.sizeOf3 (by decide) rfl) rfl ?_
  refine s_y (v := .int .i64 ((i : Nat) : Int)) (y_load1 rfl Try.isAgg3 (own1 (.t .h) (pre_get 4 hpre rfl))) rfl ?_
  refine s_y (v := .bool (decide (xs.length < i))) (y_lss (a := ((xs.length : Nat) : Int)) (b := ((i : Nat) : Int)) (c := decide (xs.length < i)) rfl rfl (decide_eq_decide.2 (by omega))) rfl ?_
  refine wpL_nil ?_
  refine thenS_n ?_
  refine wpS_cond (t := decide (xs.length < i)) rfl (fun b9 => ?_) (fun b9 => ?_)
  ·
   have p9 := of_decide_eq_true b9
   refine wpS_skip ?_
   refine thenS_n ?_
   refine wpS_block ?_
   refine wpS_region ?_
   refine s_y (v := .slice xa xs.length xc) (y_move h4_8) rfl ?_
   refine s_y (v := .slice xa xs.length xc) (y_move h4_8) rfl ?_
   refine s_y (v := .int .i64 ((xs.length : Nat) : Int)) (y_len (ty' := 0) (at_ := #[]) rfl Try.underlying153) rfl ?_
   refine s_y (v := .int .i64 (((xs.length % 3) : Nat) : Int)) (y_rem (a := ((xs.length : Nat) : Int)) (b := 3) rfl rfl (by omega) (n_rem _ 3 (by omega))) rfl ?_
   refine s_y (v := .agg #[.int .i64 ((Int64.ofNat (xs.length % 3)).toInt), .int .i64 1]) (y_buildL (m := [(0, .int .i64 ((Int64.ofNat (xs.length % 3)).toInt)), (1, .int .i64 1)]) (vs := #[.int .i64 ((Int64.ofNat (xs.length % 3)).toInt), .int .i64 1]) (evc (congrArg (Value.int .i64) (onat (n := xs.length % 3) (by omega))) (evc rfl evn)) (fun w => by kernel_rfl)) rfl ?_
   refine s_e rfl ?_
   refine e_bsliceL (e := 89) (m := [(0, .agg #[.int .i64 ((Int64.ofNat (xs.length % 3)).toInt), .int .i64 1])]) (l := [.int .i64 ((Int64.ofNat (xs.length % 3)).toInt), .int .i64 1]) (evc rfl evn) (fun w => by kernel_rfl) ?_
   intro b_10
   refine s_e rfl ?_
   refine e_appendL (enc := prV) (xs := (xs : List Pr)) (ns := ([(((Int64.ofNat (xs.length % 3)), 1) : Pr)] : List Pr)) (zs := (xs ++ [(((Int64.ofNat (xs.length % 3)), 1) : Pr)])) (bytes := 16) prV_len prV_one Try.underlying153 (i := Try.t89) rfl rfl rfl rfl rfl (by decide) rfl rfl (by first | rfl | omega) (by first | rfl | omega) (.t .h) (fun w hs => celR .h w hs) (by first | rfl | simp) (by rw [List.length_append, List.length_singleton]; omega) (by rw [List.length_append, List.length_singleton]; omega) ?_
   intro a_11 c_12
   refine s_y (v := .slice a_11 ((xs ++ [(((Int64.ofNat (xs.length % 3)), 1) : Pr)]).length) c_12) (y_assign rfl) rfl ?_
   refine wpL_nil ?_
   refine blockS_n ?_
   refine thenS_n ?_
   exact ⟨_, by omega, ⟨(q + 1), (xs ++ [(((Int64.ofNat (xs.length % 3)), 1) : Pr)]), a_11, c_12, rfl, by omega, (by rw [List.length_append, List.length_singleton]; omega), rfl, h1_8, h2_8, rfl, .p .h (.p (.t .h) (.p (.t .h) (.p (.t .h) .nil)))⟩⟩
  ·
   have p9 := of_decide_eq_false b9
   refine wpS_exit ?_
   refine thenS_x ?_
   refine thenS_x ?_
   refine blockS_h ?_
   refine thenS_n ?_
   refine wpS_seq ?_
   refine wpS_region ?_
   refine s_y (v := .slice xa xs.length xc) (y_move h4_8) rfl ?_
   refine s_y (v := .pointer (some ⟨b_1, 41, none⟩)) (y_fieldAddr (o' := 41) h1_8 Try.underlying155 rfl Try.sizeOf153 (by decide) rfl) rfl ?_
   refine s_e0 ?_
   refine e_store (vs := [.slice xa xs.length xc]) (l' := (pj pre [.int .i64 ((m : Nat) : Int), .slice a1 n1 c1, .slice a2 n2 c2, .slice a3 n3 c3, .int .i64 ((i : Nat) : Int), .int .i64 ((m : Nat) : Int), .int .i64 ((S : Nat) : Int), .int .i64 ((Wn : Nat) : Int), .slice xa xs.length xc])) rfl rfl rfl rfl Try.sizeOf153 (.t .h) (pre_fit 8 hpre (Nat.le_of_ble_eq_true rfl)) (pre_set 8 hpre rfl) ?_
   refine wpL_nil ?_
   refine thenS_n ?_
   refine wpS_seq ?_
   refine wpS_region ?_
   refine s_y (v := .agg (pj pre [.int .i64 ((m : Nat) : Int), .slice a1 n1 c1, .slice a2 n2 c2, .slice a3 n3 c3, .int .i64 ((i : Nat) : Int), .int .i64 ((m : Nat) : Int), .int .i64 ((S : Nat) : Int), .int .i64 ((Wn : Nat) : Int), .slice xa xs.length xc]).toArray) (y_loadW (vs := (pj pre [.int .i64 ((m : Nat) : Int), .slice a1 n1 c1, .slice a2 n2 c2, .slice a3 n3 c3, .int .i64 ((i : Nat) : Int), .int .i64 ((m : Nat) : Int), .int .i64 ((S : Nat) : Int), .int .i64 ((Wn : Nat) : Int), .slice xa xs.length xc])) h1_8 Try.isAgg155 Try.sizeOf155 (by first | rfl | exact pre_len hpre rfl) (fun w hs => ownN .h (by simp only [List.drop_zero]; exact List.take_length) w hs)) rfl ?_
   refine s_e0 ?_
   refine e_storeW (vs := (pj pre [.int .i64 ((m : Nat) : Int), .slice a1 n1 c1, .slice a2 n2 c2, .slice a3 n3 c3, .int .i64 ((i : Nat) : Int), .int .i64 ((m : Nat) : Int), .int .i64 ((S : Nat) : Int), .int .i64 ((Wn : Nat) : Int), .slice xa xs.length xc])) h2_8 rfl rfl (pre_one hpo rfl) Try.sizeOf155 (by first | rfl | exact pre_len hpre rfl) (.t (.t (.t .h))) (by first | rfl | exact pre_len hpre rfl) ?_
   refine wpL_nil ?_
   refine thenS_n ?_
   refine wpS_ret ?_
   refine fin1' (M := [cel b_2 155 (pj pre [.int .i64 ((m : Nat) : Int), .slice a1 n1 c1, .slice a2 n2 c2, .slice a3 n3 c3, .int .i64 ((i : Nat) : Int), .int .i64 ((m : Nat) : Int), .int .i64 ((S : Nat) : Int), .int .i64 ((Wn : Nat) : Int), .slice xa xs.length xc]), osl xa xc xs.length 2 89 (xs.flatMap prV)]) (.inr rfl) (.p .h (.p (.t .h) .nil)) Try.results134 (rvCW (vs := (pj pre [.int .i64 ((m : Nat) : Int), .slice a1 n1 c1, .slice a2 n2 c2, .slice a3 n3 c3, .int .i64 ((i : Nat) : Int), .int .i64 ((m : Nat) : Int), .int .i64 ((S : Nat) : Int), .int .i64 ((Wn : Nat) : Int), .slice xa xs.length xc])) h2_8 Try.isAgg155 Try.sizeOf155 (by first | rfl | exact pre_len hpre rfl) (fun w hs => ownN .h (by simp only [List.drop_zero]; exact List.take_length) w hs)) ?_
   have e1 : xs.length = i := by omega
   have e2 := right_ok (i := i) (m := m) (S := S) (W := Wn) (by assumption) (by omega) (by omega) (by omega) (by omega) (by omega) (by omega) (by omega) (by omega)
   have e3 : i ≤ 6 := by omega
   exact fun w' hs => ⟨((i, S, Wn), (xa, xc), xs), by rw [e1], by rw [e1] at hs; exact hs.ent (.p (.t .h) .nil), e2, e3, e1⟩
theorem jright_no (pre : List Value) (p0 p1 p2 p3 : Int) (ia : Option Addr) (inn ic : Nat) (lj : List Pr) (m : Nat) (k0 : Int) (a1 a2 a3 : Option Addr) (n1 c1 n2 c2 n3 c3 : Nat) (l1 l2 l3 : List Opc) (w : World) (hpre : pre.length = 33) (hpo : pre.all Value.oneCell' = true) (hmm : 1 + u64of p1 % 2 = m) (hn1 : l1.length = n1) (hr1 : Rds w a1 (l1.flatMap opcV)) (hb1 : n1 ≤ 9223372036854775807) (hn2 : l2.length = n2) (hr2 : Rds w a2 (l2.flatMap opcV)) (hb2 : n2 ≤ 9223372036854775807) (hn3 : l3.length = n3) (hr3 : Rds w a3 (l3.flatMap opcV)) (hb3 : n3 ≤ 9223372036854775807) (hni : lj.length = inn) (hri : Rds w ia (lj.flatMap prV)) (hbi : inn ≤ 9223372036854775807) (hci : inn ≤ ic) (hck0 : (chkB ((m : Nat) : Int) l1 l2 l3) = false) : Makes Try.prog 134 #[.agg (pj pre [.int .i64 k0, .slice a1 n1 c1, .slice a2 n2 c2, .slice a3 n3 c3, .int .i64 p0, .int .i64 p1, .int .i64 p2, .int .i64 p3, .slice ia inn ic]).toArray] w [] (X := ((Nat × Nat × Nat) × (Option Addr × Nat) × List Pr) × ((Option Addr × Nat) × Nat)) (fun x => .agg (pj pre [.int .i64 ((m : Nat) : Int), .slice x.2.1.1 (m + 1) x.2.1.2, .slice (some ⟨x.2.2, 0, none⟩) 1 1, .slice none 0 0, .int .i64 ((x.1.1.1 : Nat) : Int), .int .i64 ((m : Nat) : Int), .int .i64 ((x.1.1.2.1 : Nat) : Int), .int .i64 ((x.1.1.2.2 : Nat) : Int), .slice x.1.2.1.1 x.1.1.1 x.1.2.1.2]).toArray) (fun x => [osl x.1.2.1.1 x.1.2.1.2 x.1.1.1 2 89 (x.1.2.2.flatMap prV), osl x.2.1.1 x.2.1.2 (m + 1) 6 86 ((smapL m).flatMap opcV), cel x.2.2 86 (sfoldL.flatMap opcV)]) (fun x => ok ⟨((x.1.1.1 : Nat) : Int), ((m : Nat) : Int), ((x.1.1.2.1 : Nat) : Int), ((x.1.1.2.2 : Nat) : Int)⟩ = true ∧ x.1.1.1 ≤ 6 ∧ x.1.2.2.length = x.1.1.1) := by
 refine calls_S (n := 124) (σ0 := (upd fr0 0 (.agg (pj pre [.int .i64 k0, .slice a1 n1 c1, .slice a2 n2 c2, .slice a3 n3 c3, .int .i64 p0, .int .i64 p1, .int .i64 p2, .int .i64 p3, .slice ia inn ic]).toArray))) (D := []) (A := []) Try.func134 rfl Try.ntmps134 rfl (a1_fr _) (SH.start w) ?_
 obtain ⟨R0, hR0⟩ : ∃ R0, 1 + u64of p0 % 6 = R0 := ⟨_, rfl⟩
 obtain ⟨S, hS0⟩ : ∃ S, 1 + u64of p2 % 3 = S := ⟨_, rfl⟩
 obtain ⟨Wn, hW0⟩ : ∃ Wn, 1 + u64of p3 % 3 = Wn := ⟨_, rfl⟩
 refine wpS_seq ?_
 refine wpS_region ?_
 refine s_e rfl ?_
 refine e_box (v := .agg (pj pre [.int .i64 k0, .slice a1 n1 c1, .slice a2 n2 c2, .slice a3 n3 c3, .int .i64 p0, .int .i64 p1, .int .i64 p2, .int .i64 p3, .slice ia inn ic]).toArray) (l := (pj pre [.int .i64 k0, .slice a1 n1 c1, .slice a2 n2 c2, .slice a3 n3 c3, .int .i64 p0, .int .i64 p1, .int .i64 p2, .int .i64 p3, .slice ia inn ic])) rfl rfl ?_
 intro b_1
 refine s_e rfl ?_
 refine e_alloc (l := zJob) Try.zeroValue155 rfl ?_
 intro b_2
 refine wpL_nil ?_
 refine thenS_n ?_
 refine wpS_seq ?_
 refine wpS_region ?_
 refine s_y (v := .pointer (some ⟨b_1, 37, none⟩)) (y_fieldAddr (o' := 37) rfl Try.underlying155 rfl Try.sizeOf53 (by decide) rfl) rfl ?_
 refine s_y (v := .pointer (some ⟨b_1, 37, none⟩)) (y_fieldAddr (o' := 37) rfl Try.underlying53 rfl Try.sizeOf3 (by decide) rfl) rfl ?_
 refine s_y (v := .int .i64 p0) (y_load1 rfl Try.isAgg3 (own1 (.t .h) (pre_get 4 hpre rfl))) rfl ?_
 refine s_y (v := .int .u64 (((u64of p0) : Nat) : Int)) (y_convI (a := p0) rfl Try.underlying3 Try.underlying46 (u64of_wrap _)) rfl ?_
 refine s_y (v := .int .u64 ((((u64of p0) % 6) : Nat) : Int)) (y_rem (a := (((u64of p0) : Nat) : Int)) (b := 6) rfl rfl (by omega) (n_rem _ 6 (by omega))) rfl ?_
 refine s_y (v := .int .i64 ((((u64of p0) % 6) : Nat) : Int)) (y_convI (a := ((((u64of p0) % 6) : Nat) : Int)) rfl Try.underlying46 Try.underlying3 (wI rfl (by omega) (by omega))) rfl ?_
 refine s_y (v := .int .i64 ((R0 : Nat) : Int)) (y_add (a := 1) (b := ((((u64of p0) % 6) : Nat) : Int)) rfl rfl (wI (by omega) (by omega) (by omega))) rfl ?_
 refine s_y (v := .pointer (some ⟨b_1, 37, none⟩)) (y_fieldAddr (o' := 37) rfl Try.underlying155 rfl Try.sizeOf53 (by decide) rfl) rfl ?_
 refine s_y (v := .pointer (some ⟨b_1, 37, none⟩)) (y_fieldAddr (o' := 37) rfl Try.underlying53 rfl Try.sizeOf3 (by decide) rfl) rfl ?_
 refine s_e0 ?_
 refine e_store (vs := [.int .i64 ((R0 : Nat) : Int)]) (l' := (pj pre [.int .i64 k0, .slice a1 n1 c1, .slice a2 n2 c2, .slice a3 n3 c3, .int .i64 ((R0 : Nat) : Int), .int .i64 p1, .int .i64 p2, .int .i64 p3, .slice ia inn ic])) rfl rfl rfl rfl Try.sizeOf3 (.t .h) (pre_fit 4 hpre (Nat.le_of_ble_eq_true rfl)) (pre_set 4 hpre rfl) ?_
 refine wpL_nil ?_
 refine thenS_n ?_
 refine wpS_seq ?_
 refine wpS_region ?_
 refine s_y (v := .pointer (some ⟨b_1, 37, none⟩)) (y_fieldAddr (o' := 37) rfl Try.underlying155 rfl Try.sizeOf53 (by decide) rfl) rfl ?_
 refine s_y (v := .pointer (some ⟨b_1, 38, none⟩)) (y_fieldAddr (o' := 38) rfl Try.underlying53 rfl Try.sizeOf3 (by decide) rfl) rfl ?_
 refine s_y (v := .int .i64 p1) (y_load1 rfl Try.isAgg3 (own1 .h (pre_get 5 hpre rfl))) rfl ?_
 refine s_y (v := .int .u64 (((u64of p1) : Nat) : Int)) (y_convI (a := p1) rfl Try.underlying3 Try.underlying46 (u64of_wrap _)) rfl ?_
 refine s_y (v := .int .u64 ((((u64of p1) % 2) : Nat) : Int)) (y_rem (a := (((u64of p1) : Nat) : Int)) (b := 2) rfl rfl (by omega) (n_rem _ 2 (by omega))) rfl ?_
 refine s_y (v := .int .i64 ((((u64of p1) % 2) : Nat) : Int)) (y_convI (a := ((((u64of p1) % 2) : Nat) : Int)) rfl Try.underlying46 Try.underlying3 (wI rfl (by omega) (by omega))) rfl ?_
 refine s_y (v := .int .i64 ((m : Nat) : Int)) (y_add (a := 1) (b := ((((u64of p1) % 2) : Nat) : Int)) rfl rfl (wI (by omega) (by omega) (by omega))) rfl ?_
 refine s_y (v := .pointer (some ⟨b_1, 37, none⟩)) (y_fieldAddr (o' := 37) rfl Try.underlying155 rfl Try.sizeOf53 (by decide) rfl) rfl ?_
 refine s_y (v := .pointer (some ⟨b_1, 38, none⟩)) (y_fieldAddr (o' := 38) rfl Try.underlying53 rfl Try.sizeOf3 (by decide) rfl) rfl ?_
 refine s_e0 ?_
 refine e_store (vs := [.int .i64 ((m : Nat) : Int)]) (l' := (pj pre [.int .i64 k0, .slice a1 n1 c1, .slice a2 n2 c2, .slice a3 n3 c3, .int .i64 ((R0 : Nat) : Int), .int .i64 ((m : Nat) : Int), .int .i64 p2, .int .i64 p3, .slice ia inn ic])) rfl rfl rfl rfl Try.sizeOf3 .h (pre_fit 5 hpre (Nat.le_of_ble_eq_true rfl)) (pre_set 5 hpre rfl) ?_
 refine wpL_nil ?_
 refine thenS_n ?_
 refine wpS_seq ?_
 refine wpS_region ?_
 refine s_y (v := .pointer (some ⟨b_1, 37, none⟩)) (y_fieldAddr (o' := 37) rfl Try.underlying155 rfl Try.sizeOf53 (by decide) rfl) rfl ?_
 refine s_y (v := .pointer (some ⟨b_1, 39, none⟩)) (y_fieldAddr (o' := 39) rfl Try.underlying53 rfl Try.sizeOf3 (by decide) rfl) rfl ?_
 refine s_y (v := .int .i64 p2) (y_load1 rfl Try.isAgg3 (own1 .h (pre_get 6 hpre rfl))) rfl ?_
 refine s_y (v := .int .u64 (((u64of p2) : Nat) : Int)) (y_convI (a := p2) rfl Try.underlying3 Try.underlying46 (u64of_wrap _)) rfl ?_
 refine s_y (v := .int .u64 ((((u64of p2) % 3) : Nat) : Int)) (y_rem (a := (((u64of p2) : Nat) : Int)) (b := 3) rfl rfl (by omega) (n_rem _ 3 (by omega))) rfl ?_
 refine s_y (v := .int .i64 ((((u64of p2) % 3) : Nat) : Int)) (y_convI (a := ((((u64of p2) % 3) : Nat) : Int)) rfl Try.underlying46 Try.underlying3 (wI rfl (by omega) (by omega))) rfl ?_
 refine s_y (v := .int .i64 ((S : Nat) : Int)) (y_add (a := 1) (b := ((((u64of p2) % 3) : Nat) : Int)) rfl rfl (wI (by omega) (by omega) (by omega))) rfl ?_
 refine s_y (v := .pointer (some ⟨b_1, 37, none⟩)) (y_fieldAddr (o' := 37) rfl Try.underlying155 rfl Try.sizeOf53 (by decide) rfl) rfl ?_
 refine s_y (v := .pointer (some ⟨b_1, 39, none⟩)) (y_fieldAddr (o' := 39) rfl Try.underlying53 rfl Try.sizeOf3 (by decide) rfl) rfl ?_
 refine s_e0 ?_
 refine e_store (vs := [.int .i64 ((S : Nat) : Int)]) (l' := (pj pre [.int .i64 k0, .slice a1 n1 c1, .slice a2 n2 c2, .slice a3 n3 c3, .int .i64 ((R0 : Nat) : Int), .int .i64 ((m : Nat) : Int), .int .i64 ((S : Nat) : Int), .int .i64 p3, .slice ia inn ic])) rfl rfl rfl rfl Try.sizeOf3 .h (pre_fit 6 hpre (Nat.le_of_ble_eq_true rfl)) (pre_set 6 hpre rfl) ?_
 refine wpL_nil ?_
 refine thenS_n ?_
 refine wpS_seq ?_
 refine wpS_region ?_
 refine s_y (v := .pointer (some ⟨b_1, 37, none⟩)) (y_fieldAddr (o' := 37) rfl Try.underlying155 rfl Try.sizeOf53 (by decide) rfl) rfl ?_
 refine s_y (v := .pointer (some ⟨b_1, 40, none⟩)) (y_fieldAddr (o' := 40) rfl Try.underlying53 rfl Try.sizeOf3 (by decide) rfl) rfl ?_
 refine s_y (v := .int .i64 p3) (y_load1 rfl Try.isAgg3 (own1 .h (pre_get 7 hpre rfl))) rfl ?_
 refine s_y (v := .int .u64 (((u64of p3) : Nat) : Int)) (y_convI (a := p3) rfl Try.underlying3 Try.underlying46 (u64of_wrap _)) rfl ?_
 refine s_y (v := .int .u64 ((((u64of p3) % 3) : Nat) : Int)) (y_rem (a := (((u64of p3) : Nat) : Int)) (b := 3) rfl rfl (by omega) (n_rem _ 3 (by omega))) rfl ?_
 refine s_y (v := .int .i64 ((((u64of p3) % 3) : Nat) : Int)) (y_convI (a := ((((u64of p3) % 3) : Nat) : Int)) rfl Try.underlying46 Try.underlying3 (wI rfl (by omega) (by omega))) rfl ?_
 refine s_y (v := .int .i64 ((Wn : Nat) : Int)) (y_add (a := 1) (b := ((((u64of p3) % 3) : Nat) : Int)) rfl rfl (wI (by omega) (by omega) (by omega))) rfl ?_
 refine s_y (v := .pointer (some ⟨b_1, 37, none⟩)) (y_fieldAddr (o' := 37) rfl Try.underlying155 rfl Try.sizeOf53 (by decide) rfl) rfl ?_
 refine s_y (v := .pointer (some ⟨b_1, 40, none⟩)) (y_fieldAddr (o' := 40) rfl Try.underlying53 rfl Try.sizeOf3 (by decide) rfl) rfl ?_
 refine s_e0 ?_
 refine e_store (vs := [.int .i64 ((Wn : Nat) : Int)]) (l' := (pj pre [.int .i64 k0, .slice a1 n1 c1, .slice a2 n2 c2, .slice a3 n3 c3, .int .i64 ((R0 : Nat) : Int), .int .i64 ((m : Nat) : Int), .int .i64 ((S : Nat) : Int), .int .i64 ((Wn : Nat) : Int), .slice ia inn ic])) rfl rfl rfl rfl Try.sizeOf3 .h (pre_fit 7 hpre (Nat.le_of_ble_eq_true rfl)) (pre_set 7 hpre rfl) ?_
 refine wpL_nil ?_
 refine thenS_n ?_
 refine wpS_seq ?_
 refine wpS_block ?_
 refine wpS_loop (fun mez ds σ L => ∃ i : Nat, mez = i ∧ (1 ≤ i) ∧ (i ≤ 6) ∧ ds = [] ∧ σ 1 = .pointer (some ⟨b_1, 0, none⟩) ∧ σ 2 = .pointer (some ⟨b_2, 0, none⟩) ∧ Ent L [cel b_1 155 (pj pre [.int .i64 k0, .slice a1 n1 c1, .slice a2 n2 c2, .slice a3 n3 c3, .int .i64 ((i : Nat) : Int), .int .i64 ((m : Nat) : Int), .int .i64 ((S : Nat) : Int), .int .i64 ((Wn : Nat) : Int), .slice ia inn ic]), cel b_2 155 zJob]) (m0 := R0) ⟨R0, rfl, by omega, by omega, rfl, rfl, rfl, .p .h (.p .h .nil)⟩ ?_
 rintro mez ds σ L ⟨i, hm_3, hf0_3, hf1_3, rfl, h1_3, h2_3, hE_3⟩
 refine wpS_ent hE_3 ?_; clear hE_3
 have hmq := right_le (i := i) (m := m) (S := S) (by omega) (by omega) (by omega) (by omega)
 refine wpS_seq ?_
 refine wpS_seq ?_
 refine wpS_lex (by kernel_rfl) (by kernel_rfl) ?_
 refine x_y (v := .pointer (some ⟨b_1, 37, none⟩)) (y_fieldAddr (o' := 37) h1_3 Try.underlying155 rfl Try.sizeOf53 (by decide) rfl) rfl ?_
 refine x_y (v := .pointer (some ⟨b_1, 38, none⟩)) (y_fieldAddr (o' := 38) rfl Try.underlying53 rfl Try.sizeOf3 (by decide) rfl) rfl ?_
 refine x_y (v := .int .i64 ((m : Nat) : Int)) (y_load1 rfl Try.isAgg3 (own1 .h (pre_get 5 hpre rfl))) rfl ?_
 refine x_y (v := .pointer (some ⟨b_1, 37, none⟩)) (y_fieldAddr (o' := 37) h1_3 Try.underlying155 rfl Try.sizeOf53 (by decide) rfl) rfl ?_
 refine x_y (v := .pointer (some ⟨b_1, 37, none⟩)) (y_fieldAddr (o' := 37) rfl Try.underlying53 rfl Try.sizeOf3 (by decide) rfl) rfl ?_
 refine x_y (v := .int .i64 ((i : Nat) : Int)) (y_load1 rfl Try.isAgg3 (own1 .h (pre_get 4 hpre rfl))) rfl ?_
 refine x_y (v := .pointer (some ⟨b_1, 37, none⟩)) (y_fieldAddr (o' := 37) h1_3 Try.underlying155 rfl Try.sizeOf53 (by decide) rfl) rfl ?_
 refine x_y (v := .pointer (some ⟨b_1, 39, none⟩)) (y_fieldAddr (o' := 39) rfl Try.underlying53 rfl Try.sizeOf3 (by decide) rfl) rfl ?_
 refine x_y (v := .int .i64 ((S : Nat) : Int)) (y_load1 rfl Try.isAgg3 (own1 .h (pre_get 6 hpre rfl))) rfl ?_
 refine x_y (v := .int .i64 (((i + S) : Nat) : Int)) (y_add (a := ((i : Nat) : Int)) (b := ((S : Nat) : Int)) rfl rfl (wI (by omega) (by omega) (by omega))) rfl ?_
 refine x_y (v := .int .i64 ((((i + S) - 1) : Nat) : Int)) (y_sub (a := (((i + S) : Nat) : Int)) (b := 1) rfl rfl (wI (by omega) (by omega) (by omega))) rfl ?_
 refine x_y (v := .pointer (some ⟨b_1, 37, none⟩)) (y_fieldAddr (o' := 37) h1_3 Try.underlying155 rfl Try.sizeOf53 (by decide) rfl) rfl ?_
 refine x_y (v := .pointer (some ⟨b_1, 39, none⟩)) (y_fieldAddr (o' := 39) rfl Try.underlying53 rfl Try.sizeOf3 (by decide) rfl) rfl ?_
 refine x_y (v := .int .i64 ((S : Nat) : Int)) (y_load1 rfl Try.isAgg3 (own1 .h (pre_get 6 hpre rfl))) rfl ?_
 refine x_y (v := .int .i64 (((((i + S) - 1) / S) : Nat) : Int)) (y_quo (a := ((((i + S) - 1) : Nat) : Int)) (b := ((S : Nat) : Int)) rfl rfl (by omega) (n_quo _ S (by omega) (by omega))) rfl ?_
 refine x_y (v := .int .i64 (((m * (((i + S) - 1) / S)) : Nat) : Int)) (y_mul (a := ((m : Nat) : Int)) (b := (((((i + S) - 1) / S) : Nat) : Int)) rfl rfl (wI (Int.natCast_mul _ _).symm (by omega) (by omega))) rfl ?_
 refine x_y (v := .bool (decide ((7 : Nat) < (m * (((i + S) - 1) / S))))) (y_gtr (a := (((m * (((i + S) - 1) / S)) : Nat) : Int)) (b := 7) (c := decide ((7 : Nat) < (m * (((i + S) - 1) / S)))) rfl rfl (decide_eq_decide.2 (by omega))) rfl ?_
 refine x_nil ?_
 refine thenS_n ?_
 refine wpS_cond (t := decide ((7 : Nat) < (m * (((i + S) - 1) / S)))) rfl (fun b4 => ?_) (fun b4 => ?_)
 ·
  have p4 := of_decide_eq_true b4
  have hi2 := right_ge (i := i) (m := m) (S := S) (by omega) (by omega) (by omega) (by omega)
  refine wpS_skip ?_
  refine thenS_n ?_
  refine wpS_block ?_
  refine wpS_region ?_
  refine s_y (v := .pointer (some ⟨b_1, 37, none⟩)) (y_fieldAddr (o' := 37) h1_3 Try.underlying155 rfl Try.sizeOf53 (by decide) rfl) rfl ?_
  refine s_y (v := .pointer (some ⟨b_1, 37, none⟩)) (y_fieldAddr (o' := 37) rfl Try.underlying53 rfl Try.sizeOf3 (by decide) rfl) rfl ?_
  refine s_y (v := .int .i64 ((i : Nat) : Int)) (y_load1 rfl Try.isAgg3 (own1 .h (pre_get 4 hpre rfl))) rfl ?_
  refine s_y (v := .int .i64 (((i - 1) : Nat) : Int)) (y_sub (a := ((i : Nat) : Int)) (b := 1) rfl rfl (wI (by omega) (by omega) (by omega))) rfl ?_
  refine s_y (v := .pointer (some ⟨b_1, 37, none⟩)) (y_fieldAddr (o' := 37) h1_3 Try.underlying155 rfl Try.sizeOf53 (by decide) rfl) rfl ?_
  refine s_y (v := .pointer (some ⟨b_1, 37, none⟩)) (y_fieldAddr (o' := 37) rfl Try.underlying53 rfl Try.sizeOf3 (by decide) rfl) rfl ?_
  refine s_e0 ?_
  refine e_store (vs := [.int .i64 (((i - 1) : Nat) : Int)]) (l' := (pj pre [.int .i64 k0, .slice a1 n1 c1, .slice a2 n2 c2, .slice a3 n3 c3, .int .i64 (((i - 1) : Nat) : Int), .int .i64 ((m : Nat) : Int), .int .i64 ((S : Nat) : Int), .int .i64 ((Wn : Nat) : Int), .slice ia inn ic])) rfl rfl rfl rfl Try.sizeOf3 .h (pre_fit 4 hpre (Nat.le_of_ble_eq_true rfl)) (pre_set 4 hpre rfl) ?_
  refine wpL_nil ?_
  refine blockS_n ?_
  refine thenS_n ?_
  exact ⟨_, by omega, ⟨(i - 1), rfl, by omega, by omega, rfl, h1_3, h2_3, .p .h (.p .h .nil)⟩⟩
 ·
  have p4 := of_decide_eq_false b4
  refine wpS_exit ?_
  refine thenS_x ?_
  refine thenS_x ?_
  refine blockS_h ?_
  refine thenS_n ?_
  refine wpS_seq ?_
  refine wpS_region ?_
  refine s_y (v := .pointer (some ⟨b_1, 33, none⟩)) (y_fieldAddr (o' := 33) h1_3 Try.underlying155 rfl Try.sizeOf84 (by decide) rfl) rfl ?_
  refine s_y (v := .agg #[.int .i64 k0, .slice a1 n1 c1, .slice a2 n2 c2, .slice a3 n3 c3]) (y_loadN rfl Try.isAgg84 Try.sizeOf84 (ownN .h (pre_getN 0 hpre rfl))) rfl ?_
  refine s_e rfl ?_
  refine e_alloc (l := [.int .i64 0, .slice none 0 0, .slice none 0 0, .slice none 0 0]) Try.zeroValue84 rfl ?_
  intro b_5
  refine s_e0 ?_
  refine e_store (vs := [.int .i64 k0, .slice a1 n1 c1, .slice a2 n2 c2, .slice a3 n3 c3]) (l' := [.int .i64 k0, .slice a1 n1 c1, .slice a2 n2 c2, .slice a3 n3 c3]) rfl rfl rfl rfl Try.sizeOf84 .h (Nat.le_of_ble_eq_true rfl) rfl ?_
  refine wpL_nil ?_
  refine thenS_n ?_
  refine wpS_seq ?_
  refine wpS_region ?_
  refine s_y (v := .pointer (some ⟨b_1, 37, none⟩)) (y_fieldAddr (o' := 37) h1_3 Try.underlying155 rfl Try.sizeOf53 (by decide) rfl) rfl ?_
  refine s_y (v := .pointer (some ⟨b_1, 38, none⟩)) (y_fieldAddr (o' := 38) rfl Try.underlying53 rfl Try.sizeOf3 (by decide) rfl) rfl ?_
  refine s_y (v := .int .i64 ((m : Nat) : Int)) (y_load1 rfl Try.isAgg3 (own1 (.t .h) (pre_get 5 hpre rfl))) rfl ?_
  refine s_y (v := .pointer (some ⟨b_5, 0, none⟩)) (y_fieldAddr (o' := 0) rfl Try.underlying84 rfl Try.sizeOf3 (by decide) rfl) rfl ?_
  refine s_e0 ?_
  refine e_store (vs := [.int .i64 ((m : Nat) : Int)]) (l' := [.int .i64 ((m : Nat) : Int), .slice a1 n1 c1, .slice a2 n2 c2, .slice a3 n3 c3]) rfl rfl rfl rfl Try.sizeOf3 .h (Nat.le_of_ble_eq_true rfl) rfl ?_
  refine wpL_nil ?_
  refine thenS_n ?_
  refine wpS_cut (fun ds σ L => ∃ sa : Option Addr, ∃ sc : Nat, ∃ sb : Nat, ds = [] ∧ σ 1 = .pointer (some ⟨b_1, 0, none⟩) ∧ σ 2 = .pointer (some ⟨b_2, 0, none⟩) ∧ σ 3 = .pointer (some ⟨b_5, 0, none⟩) ∧ Ent L [cel b_5 84 [.int .i64 ((m : Nat) : Int), .slice sa (m + 1) sc, .slice (some ⟨sb, 0, none⟩) 1 1, .slice none 0 0], cel b_1 155 (pj pre [.int .i64 k0, .slice a1 n1 c1, .slice a2 n2 c2, .slice a3 n3 c3, .int .i64 ((i : Nat) : Int), .int .i64 ((m : Nat) : Int), .int .i64 ((S : Nat) : Int), .int .i64 ((Wn : Nat) : Int), .slice ia inn ic]), cel b_2 155 zJob, osl sa sc (m + 1) 6 86 ((smapL m).flatMap opcV), cel sb 86 [.int .i64 2, .int .i64 0, .int .i64 0, .int .i64 1, .int .i64 0, .int .i64 0]]) ?_ ?_
  ·
   refine wpS_seq ?_
   refine wpS_region ?_
   refine s_y (v := .pointer (some ⟨b_5, 1, none⟩)) (y_fieldAddr (o' := 1) rfl Try.underlying84 rfl Try.sizeOf82 (by decide) rfl) rfl ?_
   refine s_y (v := .slice a1 n1 c1) (y_load1 rfl Try.isAgg82 (own1 .h rfl)) rfl ?_
   refine s_y (v := .int .i64 ((n1 : Nat) : Int)) (y_len (ty' := 0) (at_ := #[]) rfl Try.underlying82) rfl ?_
   refine s_y (v := .bool (decide ((60 : Nat) < n1))) (y_gtr (a := ((n1 : Nat) : Int)) (b := 60) (c := decide ((60 : Nat) < n1)) rfl rfl (decide_eq_decide.2 (by omega))) rfl ?_
   refine s_y (v := .bool (decide ((60 : Nat) < n1))) (y_move rfl) rfl ?_
   rcases Bool.eq_false_or_eq_true (decide ((60 : Nat) < n1)) with b6 | b6
   ·
    have p6 := of_decide_eq_true b6
    refine s_no rfl rfl rfl rfl (b' := decide ((60 : Nat) < n1)) rfl b6 ?_
    refine s_no rfl rfl rfl rfl (b' := decide ((60 : Nat) < n1)) rfl b6 ?_
    refine s_no rfl rfl rfl rfl (b' := decide ((60 : Nat) < n1)) rfl b6 ?_
    refine s_no rfl rfl rfl rfl (b' := decide ((60 : Nat) < n1)) rfl b6 ?_
    refine s_y (v := .bool true) (y_pickT (b := decide ((60 : Nat) < n1)) rfl b6 rfl) rfl ?_
    refine s_y (v := .bool true) (y_move rfl) rfl ?_
    refine s_no rfl rfl rfl rfl rfl rfl ?_
    refine s_no rfl rfl rfl rfl rfl rfl ?_
    refine s_no rfl rfl rfl rfl rfl rfl ?_
    refine s_no rfl rfl rfl rfl rfl rfl ?_
    refine s_y (v := .bool true) (y_pickT rfl rfl rfl) rfl ?_
    refine s_y (v := .bool true) (y_move rfl) rfl ?_
    refine s_no rfl rfl rfl rfl rfl rfl ?_
    refine s_no rfl rfl rfl rfl rfl rfl ?_
    refine s_no rfl rfl rfl rfl rfl rfl ?_
    refine s_y (v := .bool true) (y_pickT rfl rfl rfl) rfl ?_
    refine wpL_nil ?_
    refine thenS_n ?_
    refine wpS_cond_t rfl ?_
    refine wpS_region ?_
    refine s_y (v := .pointer (some ⟨b_1, 37, none⟩)) (y_fieldAddr (o' := 37) h1_3 Try.underlying155 rfl Try.sizeOf53 (by decide) rfl) rfl ?_
    refine s_y (v := .pointer (some ⟨b_1, 38, none⟩)) (y_fieldAddr (o' := 38) rfl Try.underlying53 rfl Try.sizeOf3 (by decide) rfl) rfl ?_
    refine s_y (v := .int .i64 ((m : Nat) : Int)) (y_load1 rfl Try.isAgg3 (own1 (.t .h) (pre_get 5 hpre rfl))) rfl ?_
    refine s_e rfl ?_
    refine e_call (f := 141) (args := #[.int .i64 ((m : Nat) : Int)]) (X := (Option Addr × Nat) × Nat) (A := []) (M := [cel b_5 84 [.int .i64 ((m : Nat) : Int), .slice a1 n1 c1, .slice a2 n2 c2, .slice a3 n3 c3], cel b_1 155 (pj pre [.int .i64 k0, .slice a1 n1 c1, .slice a2 n2 c2, .slice a3 n3 c3, .int .i64 ((i : Nat) : Int), .int .i64 ((m : Nat) : Int), .int .i64 ((S : Nat) : Int), .int .i64 ((Wn : Nat) : Int), .slice ia inn ic]), cel b_2 155 zJob]) (V := fun x => .agg #[.int .i64 ((m : Nat) : Int), .slice x.1.1 (m + 1) x.1.2, .slice (some ⟨x.2, 0, none⟩) 1 1, .slice none 0 0]) (A' := fun x => [osl x.1.1 x.1.2 (m + 1) 6 86 ((smapL m).flatMap opcV), cel x.2 86 (sfoldL.flatMap opcV)]) (C := fun _ => True) Try.call141 (ev1 rfl) (.p .h (.p .h (.p .h .nil))) (fun w hs => sums_c m w (by omega) (by omega)) ?_
    rintro ⟨⟨a_7, c_8⟩, b_9⟩ -
    have hsm11 := smap_len m
    refine s_e0 ?_
    refine e_store (vs := [.int .i64 ((m : Nat) : Int), .slice a_7 (m + 1) c_8, .slice (some ⟨b_9, 0, none⟩) 1 1, .slice none 0 0]) (l' := [.int .i64 ((m : Nat) : Int), .slice a_7 (m + 1) c_8, .slice (some ⟨b_9, 0, none⟩) 1 1, .slice none 0 0]) rfl rfl rfl rfl Try.sizeOf84 (.t (.t .h)) (Nat.le_of_ble_eq_true rfl) rfl ?_
    refine wpL_nil ?_
    refine thenS_n ?_
    exact ⟨a_7, c_8, b_9, rfl, h1_3, h2_3, rfl, .p .h (.p (.t (.t .h)) (.p (.t (.t .h)) (.p .h (.p .h .nil))))⟩
   ·
    have p6 := of_decide_eq_false b6
    refine s_gy (y_fieldAddr (o' := 2) rfl Try.underlying84 rfl Try.sizeOf82 (by decide) rfl) rfl rfl rfl rfl (b' := decide ((60 : Nat) < n1)) rfl b6 ?_
    refine s_gy (y_load1 rfl Try.isAgg82 (own1 .h rfl)) rfl rfl rfl rfl (b' := decide ((60 : Nat) < n1)) rfl b6 ?_
    refine s_gy (y_len (ty' := 0) (at_ := #[]) rfl Try.underlying82) rfl rfl rfl rfl (b' := decide ((60 : Nat) < n1)) rfl b6 ?_
    refine s_gy (y_gtr (a := ((n2 : Nat) : Int)) (b := 60) (c := decide ((60 : Nat) < n2)) rfl rfl (decide_eq_decide.2 (by omega))) rfl rfl rfl rfl (b' := decide ((60 : Nat) < n1)) rfl b6 ?_
    refine s_y (v := .bool (decide ((60 : Nat) < n2))) (y_pickF (b := decide ((60 : Nat) < n1)) rfl b6 rfl) rfl ?_
    refine s_y (v := .bool (decide ((60 : Nat) < n2))) (y_move rfl) rfl ?_
    rcases Bool.eq_false_or_eq_true (decide ((60 : Nat) < n2)) with b12 | b12
    ·
     have p12 := of_decide_eq_true b12
     refine s_no rfl rfl rfl rfl (b' := decide ((60 : Nat) < n2)) rfl b12 ?_
     refine s_no rfl rfl rfl rfl (b' := decide ((60 : Nat) < n2)) rfl b12 ?_
     refine s_no rfl rfl rfl rfl (b' := decide ((60 : Nat) < n2)) rfl b12 ?_
     refine s_no rfl rfl rfl rfl (b' := decide ((60 : Nat) < n2)) rfl b12 ?_
     refine s_y (v := .bool true) (y_pickT (b := decide ((60 : Nat) < n2)) rfl b12 rfl) rfl ?_
     refine s_y (v := .bool true) (y_move rfl) rfl ?_
     refine s_no rfl rfl rfl rfl rfl rfl ?_
     refine s_no rfl rfl rfl rfl rfl rfl ?_
     refine s_no rfl rfl rfl rfl rfl rfl ?_
     refine s_y (v := .bool true) (y_pickT rfl rfl rfl) rfl ?_
     refine wpL_nil ?_
     refine thenS_n ?_
     refine wpS_cond_t rfl ?_
     refine wpS_region ?_
     refine s_y (v := .pointer (some ⟨b_1, 37, none⟩)) (y_fieldAddr (o' := 37) h1_3 Try.underlying155 rfl Try.sizeOf53 (by decide) rfl) rfl ?_
     refine s_y (v := .pointer (some ⟨b_1, 38, none⟩)) (y_fieldAddr (o' := 38) rfl Try.underlying53 rfl Try.sizeOf3 (by decide) rfl) rfl ?_
     refine s_y (v := .int .i64 ((m : Nat) : Int)) (y_load1 rfl Try.isAgg3 (own1 (.t .h) (pre_get 5 hpre rfl))) rfl ?_
     refine s_e rfl ?_
     refine e_call (f := 141) (args := #[.int .i64 ((m : Nat) : Int)]) (X := (Option Addr × Nat) × Nat) (A := []) (M := [cel b_5 84 [.int .i64 ((m : Nat) : Int), .slice a1 n1 c1, .slice a2 n2 c2, .slice a3 n3 c3], cel b_1 155 (pj pre [.int .i64 k0, .slice a1 n1 c1, .slice a2 n2 c2, .slice a3 n3 c3, .int .i64 ((i : Nat) : Int), .int .i64 ((m : Nat) : Int), .int .i64 ((S : Nat) : Int), .int .i64 ((Wn : Nat) : Int), .slice ia inn ic]), cel b_2 155 zJob]) (V := fun x => .agg #[.int .i64 ((m : Nat) : Int), .slice x.1.1 (m + 1) x.1.2, .slice (some ⟨x.2, 0, none⟩) 1 1, .slice none 0 0]) (A' := fun x => [osl x.1.1 x.1.2 (m + 1) 6 86 ((smapL m).flatMap opcV), cel x.2 86 (sfoldL.flatMap opcV)]) (C := fun _ => True) Try.call141 (ev1 rfl) (.p .h (.p .h (.p .h .nil))) (fun w hs => sums_c m w (by omega) (by omega)) ?_
     rintro ⟨⟨a_13, c_14⟩, b_15⟩ -
     have hsm17 := smap_len m
     refine s_e0 ?_
     refine e_store (vs := [.int .i64 ((m : Nat) : Int), .slice a_13 (m + 1) c_14, .slice (some ⟨b_15, 0, none⟩) 1 1, .slice none 0 0]) (l' := [.int .i64 ((m : Nat) : Int), .slice a_13 (m + 1) c_14, .slice (some ⟨b_15, 0, none⟩) 1 1, .slice none 0 0]) rfl rfl rfl rfl Try.sizeOf84 (.t (.t .h)) (Nat.le_of_ble_eq_true rfl) rfl ?_
     refine wpL_nil ?_
     refine thenS_n ?_
     exact ⟨a_13, c_14, b_15, rfl, h1_3, h2_3, rfl, .p .h (.p (.t (.t .h)) (.p (.t (.t .h)) (.p .h (.p .h .nil))))⟩
    ·
     have p12 := of_decide_eq_false b12
     refine s_gy (y_fieldAddr (o' := 3) rfl Try.underlying84 rfl Try.sizeOf82 (by decide) rfl) rfl rfl rfl rfl (b' := decide ((60 : Nat) < n2)) rfl b12 ?_
     refine s_gy (y_load1 rfl Try.isAgg82 (own1 .h rfl)) rfl rfl rfl rfl (b' := decide ((60 : Nat) < n2)) rfl b12 ?_
     refine s_gy (y_len (ty' := 0) (at_ := #[]) rfl Try.underlying82) rfl rfl rfl rfl (b' := decide ((60 : Nat) < n2)) rfl b12 ?_
     refine s_gy (y_gtr (a := ((n3 : Nat) : Int)) (b := 60) (c := decide ((60 : Nat) < n3)) rfl rfl (decide_eq_decide.2 (by omega))) rfl rfl rfl rfl (b' := decide ((60 : Nat) < n2)) rfl b12 ?_
     refine s_y (v := .bool (decide ((60 : Nat) < n3))) (y_pickF (b := decide ((60 : Nat) < n2)) rfl b12 rfl) rfl ?_
     refine s_y (v := .bool (decide ((60 : Nat) < n3))) (y_move rfl) rfl ?_
     rcases Bool.eq_false_or_eq_true (decide ((60 : Nat) < n3)) with b18 | b18
     ·
      have p18 := of_decide_eq_true b18
      refine s_no rfl rfl rfl rfl (b' := decide ((60 : Nat) < n3)) rfl b18 ?_
      refine s_no rfl rfl rfl rfl (b' := decide ((60 : Nat) < n3)) rfl b18 ?_
      refine s_no rfl rfl rfl rfl (b' := decide ((60 : Nat) < n3)) rfl b18 ?_
      refine s_y (v := .bool true) (y_pickT (b := decide ((60 : Nat) < n3)) rfl b18 rfl) rfl ?_
      refine wpL_nil ?_
      refine thenS_n ?_
      refine wpS_cond_t rfl ?_
      refine wpS_region ?_
      refine s_y (v := .pointer (some ⟨b_1, 37, none⟩)) (y_fieldAddr (o' := 37) h1_3 Try.underlying155 rfl Try.sizeOf53 (by decide) rfl) rfl ?_
      refine s_y (v := .pointer (some ⟨b_1, 38, none⟩)) (y_fieldAddr (o' := 38) rfl Try.underlying53 rfl Try.sizeOf3 (by decide) rfl) rfl ?_
      refine s_y (v := .int .i64 ((m : Nat) : Int)) (y_load1 rfl Try.isAgg3 (own1 (.t .h) (pre_get 5 hpre rfl))) rfl ?_
      refine s_e rfl ?_
      refine e_call (f := 141) (args := #[.int .i64 ((m : Nat) : Int)]) (X := (Option Addr × Nat) × Nat) (A := []) (M := [cel b_5 84 [.int .i64 ((m : Nat) : Int), .slice a1 n1 c1, .slice a2 n2 c2, .slice a3 n3 c3], cel b_1 155 (pj pre [.int .i64 k0, .slice a1 n1 c1, .slice a2 n2 c2, .slice a3 n3 c3, .int .i64 ((i : Nat) : Int), .int .i64 ((m : Nat) : Int), .int .i64 ((S : Nat) : Int), .int .i64 ((Wn : Nat) : Int), .slice ia inn ic]), cel b_2 155 zJob]) (V := fun x => .agg #[.int .i64 ((m : Nat) : Int), .slice x.1.1 (m + 1) x.1.2, .slice (some ⟨x.2, 0, none⟩) 1 1, .slice none 0 0]) (A' := fun x => [osl x.1.1 x.1.2 (m + 1) 6 86 ((smapL m).flatMap opcV), cel x.2 86 (sfoldL.flatMap opcV)]) (C := fun _ => True) Try.call141 (ev1 rfl) (.p .h (.p .h (.p .h .nil))) (fun w hs => sums_c m w (by omega) (by omega)) ?_
      rintro ⟨⟨a_19, c_20⟩, b_21⟩ -
      have hsm23 := smap_len m
      refine s_e0 ?_
      refine e_store (vs := [.int .i64 ((m : Nat) : Int), .slice a_19 (m + 1) c_20, .slice (some ⟨b_21, 0, none⟩) 1 1, .slice none 0 0]) (l' := [.int .i64 ((m : Nat) : Int), .slice a_19 (m + 1) c_20, .slice (some ⟨b_21, 0, none⟩) 1 1, .slice none 0 0]) rfl rfl rfl rfl Try.sizeOf84 (.t (.t .h)) (Nat.le_of_ble_eq_true rfl) rfl ?_
      refine wpL_nil ?_
      refine thenS_n ?_
      exact ⟨a_19, c_20, b_21, rfl, h1_3, h2_3, rfl, .p .h (.p (.t (.t .h)) (.p (.t (.t .h)) (.p .h (.p .h .nil))))⟩
     ·
      have p18 := of_decide_eq_false b18
      refine s_gy (y_loadN (vs := [.int .i64 ((m : Nat) : Int), .slice a1 n1 c1, .slice a2 n2 c2, .slice a3 n3 c3]) rfl Try.isAgg84 Try.sizeOf84 (ownN .h rfl)) rfl rfl rfl rfl (b' := decide ((60 : Nat) < n3)) rfl b18 ?_
      refine s_gy (y_call (args := #[.agg #[.int .i64 ((m : Nat) : Int), .slice a1 n1 c1, .slice a2 n2 c2, .slice a3 n3 c3]]) (v := .int .i64 (chk11 ((m : Nat) : Int) l1 l2 l3)) Try.call93 (ev1 rfl) (fun w hs => rcheck_c ((m : Nat) : Int) a1 a2 a3 n1 c1 n2 c2 n3 c3 l1 l2 l3 w hn1 ((oldR hr1) w hs) (by omega) hn2 ((oldR hr2) w hs) (by omega) hn3 ((oldR hr3) w hs) (by omega))) rfl rfl rfl rfl (b' := decide ((60 : Nat) < n3)) rfl b18 ?_
      refine s_gy (y_neq (a := chk11 ((m : Nat) : Int) l1 l2 l3) (b := 0) rfl rfl rfl) rfl rfl rfl rfl (b' := decide ((60 : Nat) < n3)) rfl b18 ?_
      refine s_y (v := .bool (decide ((chk11 ((m : Nat) : Int) l1 l2 l3 : Int) ≠ 0))) (y_pickF (b := decide ((60 : Nat) < n3)) rfl b18 rfl) rfl ?_
      refine wpL_nil ?_
      refine thenS_n ?_
      refine wpS_cond_T (t := decide ((chk11 ((m : Nat) : Int) l1 l2 l3 : Int) ≠ 0)) rfl (decide_eq_true (by rw [chk_8 hck0]; decide)) ?_
      refine wpS_region ?_
      refine s_y (v := .pointer (some ⟨b_1, 37, none⟩)) (y_fieldAddr (o' := 37) h1_3 Try.underlying155 rfl Try.sizeOf53 (by decide) rfl) rfl ?_
      refine s_y (v := .pointer (some ⟨b_1, 38, none⟩)) (y_fieldAddr (o' := 38) rfl Try.underlying53 rfl Try.sizeOf3 (by decide) rfl) rfl ?_
      refine s_y (v := .int .i64 ((m : Nat) : Int)) (y_load1 rfl Try.isAgg3 (own1 (.t .h) (pre_get 5 hpre rfl))) rfl ?_
      refine s_e rfl ?_
      refine e_call (f := 141) (args := #[.int .i64 ((m : Nat) : Int)]) (X := (Option Addr × Nat) × Nat) (A := []) (M := [cel b_5 84 [.int .i64 ((m : Nat) : Int), .slice a1 n1 c1, .slice a2 n2 c2, .slice a3 n3 c3], cel b_1 155 (pj pre [.int .i64 k0, .slice a1 n1 c1, .slice a2 n2 c2, .slice a3 n3 c3, .int .i64 ((i : Nat) : Int), .int .i64 ((m : Nat) : Int), .int .i64 ((S : Nat) : Int), .int .i64 ((Wn : Nat) : Int), .slice ia inn ic]), cel b_2 155 zJob]) (V := fun x => .agg #[.int .i64 ((m : Nat) : Int), .slice x.1.1 (m + 1) x.1.2, .slice (some ⟨x.2, 0, none⟩) 1 1, .slice none 0 0]) (A' := fun x => [osl x.1.1 x.1.2 (m + 1) 6 86 ((smapL m).flatMap opcV), cel x.2 86 (sfoldL.flatMap opcV)]) (C := fun _ => True) Try.call141 (ev1 rfl) (.p .h (.p .h (.p .h .nil))) (fun w hs => sums_c m w (by omega) (by omega)) ?_
      rintro ⟨⟨a_24, c_25⟩, b_26⟩ -
      have hsm28 := smap_len m
      refine s_e0 ?_
      refine e_store (vs := [.int .i64 ((m : Nat) : Int), .slice a_24 (m + 1) c_25, .slice (some ⟨b_26, 0, none⟩) 1 1, .slice none 0 0]) (l' := [.int .i64 ((m : Nat) : Int), .slice a_24 (m + 1) c_25, .slice (some ⟨b_26, 0, none⟩) 1 1, .slice none 0 0]) rfl rfl rfl rfl Try.sizeOf84 (.t (.t .h)) (Nat.le_of_ble_eq_true rfl) rfl ?_
      refine wpL_nil ?_
      refine thenS_n ?_
      exact ⟨a_24, c_25, b_26, rfl, h1_3, h2_3, rfl, .p .h (.p (.t (.t .h)) (.p (.t (.t .h)) (.p .h (.p .h .nil))))⟩
  rintro ds σ L ⟨sa, sc, sb, rfl, h1_29, h2_29, h3_29, hE_29⟩
  refine wpS_ent hE_29 ?_; clear hE_29
  refine wpS_seq ?_
  refine wpS_region ?_
  refine s_y (v := .agg #[.int .i64 ((m : Nat) : Int), .slice sa (m + 1) sc, .slice (some ⟨sb, 0, none⟩) 1 1, .slice none 0 0]) (y_loadN h3_29 Try.isAgg84 Try.sizeOf84 (ownN .h rfl)) rfl ?_
  refine s_y (v := .pointer (some ⟨b_1, 33, none⟩)) (y_fieldAddr (o' := 33) h1_29 Try.underlying155 rfl Try.sizeOf84 (by decide) rfl) rfl ?_
  refine s_e0 ?_
  refine e_store (vs := [.int .i64 ((m : Nat) : Int), .slice sa (m + 1) sc, .slice (some ⟨sb, 0, none⟩) 1 1, .slice none 0 0]) (l' := (pj pre [.int .i64 ((m : Nat) : Int), .slice sa (m + 1) sc, .slice (some ⟨sb, 0, none⟩) 1 1, .slice none 0 0, .int .i64 ((i : Nat) : Int), .int .i64 ((m : Nat) : Int), .int .i64 ((S : Nat) : Int), .int .i64 ((Wn : Nat) : Int), .slice ia inn ic])) rfl rfl rfl rfl Try.sizeOf84 (.t .h) (pre_fit 0 hpre (Nat.le_of_ble_eq_true rfl)) (pre_set 0 hpre rfl) ?_
  refine wpL_nil ?_
  refine thenS_n ?_
  refine wpS_seq ?_
  refine wpS_region ?_
  refine s_y (v := .pointer (some ⟨b_1, 41, none⟩)) (y_fieldAddr (o' := 41) h1_29 Try.underlying155 rfl Try.sizeOf153 (by decide) rfl) rfl ?_
  refine s_y (v := .slice ia inn ic) (y_load1 rfl Try.isAgg153 (own1 .h (pre_get 8 hpre rfl))) rfl ?_
  refine s_y (v := .pointer (some ⟨b_1, 41, none⟩)) (y_fieldAddr (o' := 41) h1_29 Try.underlying155 rfl Try.sizeOf153 (by decide) rfl) rfl ?_
  refine s_y (v := .slice ia inn ic) (y_load1 rfl Try.isAgg153 (own1 .h (pre_get 8 hpre rfl))) rfl ?_
  refine s_y (v := .int .i64 ((inn : Nat) : Int)) (y_len (ty' := 0) (at_ := #[]) rfl Try.underlying153) rfl ?_
  refine s_y (v := .pointer (some ⟨b_1, 37, none⟩)) (y_fieldAddr (o' := 37) h1_29 Try.underlying155 rfl Try.sizeOf53 (by decide) rfl) rfl ?_
  refine s_y (v := .pointer (some ⟨b_1, 37, none⟩)) (y_fieldAddr (o' := 37) rfl Try.underlying53 rfl Try.sizeOf3 (by decide) rfl) rfl ?_
  refine s_y (v := .int .i64 ((i : Nat) : Int)) (y_load1 rfl Try.isAgg3 (own1 .h (pre_get 4 hpre rfl))) rfl ?_
  refine s_y (v := .int .i64 (((min inn i) : Nat) : Int)) (y_min (a := ((inn : Nat) : Int)) (b := ((i : Nat) : Int)) rfl rfl (by split <;> omega)) rfl ?_
  refine s_y (v := .slice ia (min inn i) ic) (y_sliceH (h' := (min inn i)) rfl rfl Try.underlying153 Try.sizeOf89 (by omega) (by omega) (by omega)) rfl ?_
  refine s_e rfl ?_
  refine OpE.ent (fun w hs => SH.nil0 (sz := 2) (t := 89) w hs) ?_
  refine e_appendL (enc := prV) (xs := ([] : List Pr)) (ns := ((lj.take (min inn i)) : List Pr)) (zs := (lj.take (min inn i))) (bytes := 16) prV_len prV_one Try.underlying153 (i := Try.t89) rfl rfl rfl rfl rfl (by decide) rfl rfl (by first | rfl | omega) (by rw [List.length_take]; omega) .h (rdsT prV_len (min inn i) (oldR hri)) (List.nil_append _) (by rw [List.length_take]; omega) (by rw [List.length_take]; omega) ?_
  intro a_30 c_31
  refine s_y (v := .slice a_30 ((lj.take (min inn i)).length) c_31) (y_assign rfl) rfl ?_
  refine wpL_nil ?_
  refine thenS_n ?_
  refine wpS_seq ?_
  refine wpS_block ?_
  refine wpS_loop (fun mez ds σ L => ∃ q : Nat, ∃ xs : List Pr, ∃ xa : Option Addr, ∃ xc : Nat, mez = i - q ∧ (q ≤ i) ∧ (xs.length = q) ∧ ds = [] ∧ σ 1 = .pointer (some ⟨b_1, 0, none⟩) ∧ σ 2 = .pointer (some ⟨b_2, 0, none⟩) ∧ σ 4 = .slice xa xs.length xc ∧ Ent L [osl xa xc xs.length 2 89 (xs.flatMap prV), cel b_1 155 (pj pre [.int .i64 ((m : Nat) : Int), .slice sa (m + 1) sc, .slice (some ⟨sb, 0, none⟩) 1 1, .slice none 0 0, .int .i64 ((i : Nat) : Int), .int .i64 ((m : Nat) : Int), .int .i64 ((S : Nat) : Int), .int .i64 ((Wn : Nat) : Int), .slice ia inn ic]), cel b_5 84 [.int .i64 ((m : Nat) : Int), .slice sa (m + 1) sc, .slice (some ⟨sb, 0, none⟩) 1 1, .slice none 0 0], cel b_2 155 zJob, osl sa sc (m + 1) 6 86 ((smapL m).flatMap opcV), cel sb 86 [.int .i64 2, .int .i64 0, .int .i64 0, .int .i64 1, .int .i64 0, .int .i64 0]]) (m0 := i - (lj.take (min inn i)).length) ⟨(lj.take (min inn i)).length, (lj.take (min inn i)), a_30, c_31, rfl, (by rw [List.length_take]; omega), rfl, rfl, h1_29, h2_29, rfl, .p .h (.p .h (.p .h (.p .h (.p .h (.p .h .nil)))))⟩ ?_
  rintro mez ds σ L ⟨q, xs, xa, xc, hm_32, hf0_32, hf1_32, rfl, h1_32, h2_32, h4_32, hE_32⟩
  refine wpS_ent hE_32 ?_; clear hE_32
  refine wpS_seq ?_
  refine wpS_seq ?_
  refine wpS_region ?_
  refine s_y (v := .slice xa xs.length xc) (y_move h4_32) rfl ?_
  refine s_y (v := .int .i64 ((xs.length : Nat) : Int)) (y_len (ty' := 0) (at_ := #[]) rfl Try.underlying153) rfl ?_
  refine s_y (v := .pointer (some ⟨b_1, 37, none⟩)) (y_fieldAddr (o' := 37) h1_32 Try.underlying155 rfl Try.sizeOf53 (by decide) rfl) rfl ?_
  refine s_y (v := .pointer (some ⟨b_1, 37, none⟩)) (y_fieldAddr (o' := 37) rfl Try.underlying53 rfl Try.sizeOf3 (by decide) rfl) rfl ?_
  refine s_y (v := .int .i64 ((i : Nat) : Int)) (y_load1 rfl Try.isAgg3 (own1 (.t .h) (pre_get 4 hpre rfl))) rfl ?_
  refine s_y (v := .bool (decide (xs.length < i))) (y_lss (a := ((xs.length : Nat) : Int)) (b := ((i : Nat) : Int)) (c := decide (xs.length < i)) rfl rfl (decide_eq_decide.2 (by omega))) rfl ?_
  refine wpL_nil ?_
  refine thenS_n ?_
  refine wpS_cond (t := decide (xs.length < i)) rfl (fun b33 => ?_) (fun b33 => ?_)
  ·
   have p33 := of_decide_eq_true b33
   refine wpS_skip ?_
   refine thenS_n ?_
   refine wpS_block ?_
   refine wpS_region ?_
   refine s_y (v := .slice xa xs.length xc) (y_move h4_32) rfl ?_
   refine s_y (v := .slice xa xs.length xc) (y_move h4_32) rfl ?_
   refine s_y (v := .int .i64 ((xs.length : Nat) : Int)) (y_len (ty' := 0) (at_ := #[]) rfl Try.underlying153) rfl ?_
   refine s_y (v := .int .i64 (((xs.length % 3) : Nat) : Int)) (y_rem (a := ((xs.length : Nat) : Int)) (b := 3) rfl rfl (by omega) (n_rem _ 3 (by omega))) rfl ?_
   refine s_y (v := .agg #[.int .i64 ((Int64.ofNat (xs.length % 3)).toInt), .int .i64 1]) (y_buildL (m := [(0, .int .i64 ((Int64.ofNat (xs.length % 3)).toInt)), (1, .int .i64 1)]) (vs := #[.int .i64 ((Int64.ofNat (xs.length % 3)).toInt), .int .i64 1]) (evc (congrArg (Value.int .i64) (onat (n := xs.length % 3) (by omega))) (evc rfl evn)) (fun w => by kernel_rfl)) rfl ?_
   refine s_e rfl ?_
   refine e_bsliceL (e := 89) (m := [(0, .agg #[.int .i64 ((Int64.ofNat (xs.length % 3)).toInt), .int .i64 1])]) (l := [.int .i64 ((Int64.ofNat (xs.length % 3)).toInt), .int .i64 1]) (evc rfl evn) (fun w => by kernel_rfl) ?_
   intro b_34
   refine s_e rfl ?_
   refine e_appendL (enc := prV) (xs := (xs : List Pr)) (ns := ([(((Int64.ofNat (xs.length % 3)), 1) : Pr)] : List Pr)) (zs := (xs ++ [(((Int64.ofNat (xs.length % 3)), 1) : Pr)])) (bytes := 16) prV_len prV_one Try.underlying153 (i := Try.t89) rfl rfl rfl rfl rfl (by decide) rfl rfl (by first | rfl | omega) (by first | rfl | omega) (.t .h) (fun w hs => celR .h w hs) (by first | rfl | simp) (by rw [List.length_append, List.length_singleton]; omega) (by rw [List.length_append, List.length_singleton]; omega) ?_
   intro a_35 c_36
   refine s_y (v := .slice a_35 ((xs ++ [(((Int64.ofNat (xs.length % 3)), 1) : Pr)]).length) c_36) (y_assign rfl) rfl ?_
   refine wpL_nil ?_
   refine blockS_n ?_
   refine thenS_n ?_
   exact ⟨_, by omega, ⟨(q + 1), (xs ++ [(((Int64.ofNat (xs.length % 3)), 1) : Pr)]), a_35, c_36, rfl, by omega, (by rw [List.length_append, List.length_singleton]; omega), rfl, h1_32, h2_32, rfl, .p .h (.p (.t .h) (.p (.t .h) (.p (.t .h) (.p (.t .h) (.p (.t .h) .nil)))))⟩⟩
  ·
   have p33 := of_decide_eq_false b33
   refine wpS_exit ?_
   refine thenS_x ?_
   refine thenS_x ?_
   refine blockS_h ?_
   refine thenS_n ?_
   refine wpS_seq ?_
   refine wpS_region ?_
   refine s_y (v := .slice xa xs.length xc) (y_move h4_32) rfl ?_
   refine s_y (v := .pointer (some ⟨b_1, 41, none⟩)) (y_fieldAddr (o' := 41) h1_32 Try.underlying155 rfl Try.sizeOf153 (by decide) rfl) rfl ?_
   refine s_e0 ?_
   refine e_store (vs := [.slice xa xs.length xc]) (l' := (pj pre [.int .i64 ((m : Nat) : Int), .slice sa (m + 1) sc, .slice (some ⟨sb, 0, none⟩) 1 1, .slice none 0 0, .int .i64 ((i : Nat) : Int), .int .i64 ((m : Nat) : Int), .int .i64 ((S : Nat) : Int), .int .i64 ((Wn : Nat) : Int), .slice xa xs.length xc])) rfl rfl rfl rfl Try.sizeOf153 (.t .h) (pre_fit 8 hpre (Nat.le_of_ble_eq_true rfl)) (pre_set 8 hpre rfl) ?_
   refine wpL_nil ?_
   refine thenS_n ?_
   refine wpS_seq ?_
   refine wpS_region ?_
   refine s_y (v := .agg (pj pre [.int .i64 ((m : Nat) : Int), .slice sa (m + 1) sc, .slice (some ⟨sb, 0, none⟩) 1 1, .slice none 0 0, .int .i64 ((i : Nat) : Int), .int .i64 ((m : Nat) : Int), .int .i64 ((S : Nat) : Int), .int .i64 ((Wn : Nat) : Int), .slice xa xs.length xc]).toArray) (y_loadW (vs := (pj pre [.int .i64 ((m : Nat) : Int), .slice sa (m + 1) sc, .slice (some ⟨sb, 0, none⟩) 1 1, .slice none 0 0, .int .i64 ((i : Nat) : Int), .int .i64 ((m : Nat) : Int), .int .i64 ((S : Nat) : Int), .int .i64 ((Wn : Nat) : Int), .slice xa xs.length xc])) h1_32 Try.isAgg155 Try.sizeOf155 (by first | rfl | exact pre_len hpre rfl) (fun w hs => ownN .h (by simp only [List.drop_zero]; exact List.take_length) w hs)) rfl ?_
   refine s_e0 ?_
   refine e_storeW (vs := (pj pre [.int .i64 ((m : Nat) : Int), .slice sa (m + 1) sc, .slice (some ⟨sb, 0, none⟩) 1 1, .slice none 0 0, .int .i64 ((i : Nat) : Int), .int .i64 ((m : Nat) : Int), .int .i64 ((S : Nat) : Int), .int .i64 ((Wn : Nat) : Int), .slice xa xs.length xc])) h2_32 rfl rfl (pre_one hpo rfl) Try.sizeOf155 (by first | rfl | exact pre_len hpre rfl) (.t (.t (.t .h))) (by first | rfl | exact pre_len hpre rfl) ?_
   refine wpL_nil ?_
   refine thenS_n ?_
   refine wpS_ret ?_
   refine fin1' (M := [cel b_2 155 (pj pre [.int .i64 ((m : Nat) : Int), .slice sa (m + 1) sc, .slice (some ⟨sb, 0, none⟩) 1 1, .slice none 0 0, .int .i64 ((i : Nat) : Int), .int .i64 ((m : Nat) : Int), .int .i64 ((S : Nat) : Int), .int .i64 ((Wn : Nat) : Int), .slice xa xs.length xc]), osl xa xc xs.length 2 89 (xs.flatMap prV), osl sa sc (m + 1) 6 86 ((smapL m).flatMap opcV), cel sb 86 [.int .i64 2, .int .i64 0, .int .i64 0, .int .i64 1, .int .i64 0, .int .i64 0]]) (.inr rfl) (.p .h (.p (.t .h) (.p (.t (.t .h)) (.p (.t (.t .h)) .nil)))) Try.results134 (rvCW (vs := (pj pre [.int .i64 ((m : Nat) : Int), .slice sa (m + 1) sc, .slice (some ⟨sb, 0, none⟩) 1 1, .slice none 0 0, .int .i64 ((i : Nat) : Int), .int .i64 ((m : Nat) : Int), .int .i64 ((S : Nat) : Int), .int .i64 ((Wn : Nat) : Int), .slice xa xs.length xc])) h2_32 Try.isAgg155 Try.sizeOf155 (by first | rfl | exact pre_len hpre rfl) (fun w hs => ownN .h (by simp only [List.drop_zero]; exact List.take_length) w hs)) ?_
   have e1 : xs.length = i := by omega
   have e2 := right_ok (i := i) (m := m) (S := S) (W := Wn) (by assumption) (by omega) (by omega) (by omega) (by omega) (by omega) (by omega) (by omega) (by omega)
   have e3 : i ≤ 6 := by omega
   exact fun w' hs => ⟨(((i, S, Wn), (xa, xc), xs), ((sa, sc), sb)), by rw [e1], by rw [e1] at hs; exact hs.ent (.p (.t .h) (.p (.t .h) (.p (.t .h) .nil))), e2, e3, e1⟩
end Go.Proofs.Ytldkjjnjdjfipaa
