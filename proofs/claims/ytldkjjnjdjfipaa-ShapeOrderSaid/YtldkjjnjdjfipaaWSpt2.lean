/- What a task reads and writes, by the reference; walked. -/
import Derived.Test.YtldkjjnjdjfipaaWSpt1
namespace Go.Proofs.Ytldkjjnjdjfipaa
open Go Go.RowKit
set_option linter.unusedVariables false
set_option linter.unusedSimpArgs false
set_option maxRecDepth 10000
set_option maxHeartbeats 1000000

theorem rreads_c (p : Par) (i : Int) (hsm : Small p) (w : World) : MakesS Try.prog 125 #[.agg #[.int .i64 (p.n0), .int .i64 (p.n1), .int .i64 (p.n2), .int .i64 (p.n3)], .int .i64 i] w [] spotV 3 144 (readsP p i) := by
  refine calls_S (n := 86) (σ0 := (upd (upd fr0 0 (.agg #[.int .i64 (p.n0), .int .i64 (p.n1), .int .i64 (p.n2), .int .i64 (p.n3)])) 1 (.int .i64 i))) (D := []) (A := []) Try.func125 rfl Try.ntmps125 rfl (a2_fr _ _) (SH.start w) ?_
  have h88 := hsm.h8
  have hrl := hsm.rlen
  have hcl := hsm.len
  refine wpS_seq ?_
  refine wpS_region ?_
  refine s_e rfl ?_
  refine e_box (v := .agg #[.int .i64 (p.n0), .int .i64 (p.n1), .int .i64 (p.n2), .int .i64 (p.n3)]) (l := [.int .i64 (p.n0), .int .i64 (p.n1), .int .i64 (p.n2), .int .i64 (p.n3)]) rfl rfl ?_
  intro b_1
  refine s_y (v := .slice none 0 0) (y_assign rfl) rfl ?_
  refine wpL_nil ?_
  refine thenS_n ?_
  refine wpS_seq ?_
  refine wpS_region ?_
  refine s_y (v := .agg #[.int .i64 (p.n0), .int .i64 (p.n1), .int .i64 (p.n2), .int .i64 (p.n3)]) (y_loadN (vs := [.int .i64 (p.n0), .int .i64 (p.n1), .int .i64 (p.n2), .int .i64 (p.n3)]) rfl Try.isAgg53 Try.sizeOf53 (ownN .h rfl)) rfl ?_
  refine s_e rfl ?_
  refine e_call (f := 97) (args := #[.agg #[.int .i64 (p.n0), .int .i64 (p.n1), .int .i64 (p.n2), .int .i64 (p.n3)]]) (X := Option Addr × Nat) (A := []) (M := [cel b_1 53 [.int .i64 (p.n0), .int .i64 (p.n1), .int .i64 (p.n2), .int .i64 (p.n3)]]) (V := slV (refT p)) (A' := fun x => [slR taskV 5 120 (refT p) x]) (C := fun _ => True) Try.call97 (ev1 rfl) (.p .h .nil) (fun w hs => rtasks_c p hsm.h8 w) ?_
  rintro ⟨a_2, c_3⟩ -
  refine s_y (v := .slice a_2 ((refT p).length) c_3) (y_assign rfl) rfl ?_
  refine wpL_nil ?_
  refine thenS_n ?_
  refine wpS_seq ?_
  refine wpS_seq ?_
  refine wpS_region ?_
  refine s_y (v := .int .i64 i) (y_move rfl) rfl ?_
  refine s_y (v := .bool (decide ((i : Int) < 0))) (y_lss (a := i) (b := 0) rfl rfl rfl) rfl ?_
  refine s_y (v := .bool (decide ((i : Int) < 0))) (y_move rfl) rfl ?_
  rcases Bool.eq_false_or_eq_true (decide ((i : Int) < 0)) with b4 | b4
  · -- decide ((i : Int) < 0) True
    have p4 := of_decide_eq_true b4
    refine s_no rfl rfl rfl rfl (b' := decide ((i : Int) < 0)) rfl b4 ?_
    refine s_no rfl rfl rfl rfl (b' := decide ((i : Int) < 0)) rfl b4 ?_
    refine s_no rfl rfl rfl rfl (b' := decide ((i : Int) < 0)) rfl b4 ?_
    refine s_no rfl rfl rfl rfl (b' := decide ((i : Int) < 0)) rfl b4 ?_
    refine s_y (v := .bool true) (y_pickT (b := decide ((i : Int) < 0)) (v := .bool true) rfl b4 rfl) rfl ?_
    refine wpL_nil ?_
    refine thenS_n ?_
    refine wpS_cond_t rfl ?_
    refine wpS_seq ?_
    refine wpS_region ?_
    refine s_y (v := .slice none 0 0) (y_assign rfl) rfl ?_
    refine wpL_nil ?_
    refine thenS_n ?_
    refine wpS_ret ?_
    refine thenS_r ?_
    refine finNil (.inr rfl) .nil Try.results125 rfl (sz := 3) (ty := 144) ?_
    exact fun w' hs => ⟨(none, 0), by rw [show (readsP p i) = [] from (readsP_no (ref_no hsm (by omega)))]; rfl, by rw [show (readsP p i) = [] from (readsP_no (ref_no hsm (by omega)))]; exact hs, trivial⟩
  · -- decide ((i : Int) < 0) False
    have p4 := of_decide_eq_false b4
    refine s_gy (y_move rfl) rfl rfl rfl rfl (b' := decide ((i : Int) < 0)) rfl b4 ?_
    refine s_gy (y_move rfl) rfl rfl rfl rfl (b' := decide ((i : Int) < 0)) rfl b4 ?_
    refine s_gy (y_len (ty' := 0) (at_ := #[]) rfl Try.underlying115) rfl rfl rfl rfl (b' := decide ((i : Int) < 0)) rfl b4 ?_
    refine s_gy (y_geq (a := i) (b := (((refT p).length : Nat) : Int)) rfl rfl rfl) rfl rfl rfl rfl (b' := decide ((i : Int) < 0)) rfl b4 ?_
    refine s_y (v := .bool (decide (((((refT p).length : Nat) : Int) : Int) ≤ i))) (y_pickF (b := decide ((i : Int) < 0)) (v := .bool (decide (((((refT p).length : Nat) : Int) : Int) ≤ i))) rfl b4 rfl) rfl ?_
    refine wpL_nil ?_
    refine thenS_n ?_
    refine wpS_cond (t := decide (((((refT p).length : Nat) : Int) : Int) ≤ i)) rfl (fun b5 => ?_) (fun b5 => ?_)
    · -- decide (((((refT p).length : Nat) : Int) : Int) ≤ i) true
      have p5 := of_decide_eq_true b5
      refine wpS_seq ?_
      refine wpS_region ?_
      refine s_y (v := .slice none 0 0) (y_assign rfl) rfl ?_
      refine wpL_nil ?_
      refine thenS_n ?_
      refine wpS_ret ?_
      refine thenS_r ?_
      refine finNil (.inr rfl) .nil Try.results125 rfl (sz := 3) (ty := 144) ?_
      exact fun w' hs => ⟨(none, 0), by rw [show (readsP p i) = [] from (readsP_no (ref_no hsm (by omega)))]; rfl, by rw [show (readsP p i) = [] from (readsP_no (ref_no hsm (by omega)))]; exact hs, trivial⟩
    · -- decide (((((refT p).length : Nat) : Int) : Int) ≤ i) false
      have p5 := of_decide_eq_false b5
      obtain ⟨hsome, hel⟩ := ref_at hsm (i := i) (by omega) (by omega)
      have hbd := tk_bd hsome
      rw [← hel] at hbd
      have hn1 := tk_n1 hsome
      refine wpS_skip ?_
      refine thenS_n ?_
      refine wpS_seq ?_
      refine wpS_region ?_
      refine s_y (v := .slice a_2 ((refT p).length) c_3) (y_move rfl) rfl ?_
      refine s_y (v := .int .i64 i) (y_move rfl) rfl ?_
      refine s_y (v := .pointer (some ⟨aB a_2, aO a_2 + ((i).toNat) * 5, none⟩)) (y_idx (o := ((i).toNat) * 5) rfl rfl Try.underlying115 Try.sizeOf120 (oslR .h) (fl_len taskV_len _) (by decide) (by omega) (by omega) (by omega)) rfl ?_
      refine s_y (v := .agg #[.int .i64 (((refT p).getD ((i).toNat) default).t0), .int .i64 (((refT p).getD ((i).toNat) default).t1), .int .i64 (((refT p).getD ((i).toNat) default).t2), .int .i64 (((refT p).getD ((i).toNat) default).t3), .bool (((refT p).getD ((i).toNat) default).t4)]) (y_loadN (vs := taskV ((refT p).getD ((i).toNat) default)) rfl Try.isAgg120 Try.sizeOf120 (rdN (oslR .h) (fl_getN taskV_len (refT p) ((i).toNat) (by first | omega | (simp only [List.length_set, List.length_take, List.length_drop]; done) | (simp only [List.length_set, List.length_take, List.length_drop]; omega))))) rfl ?_
      refine s_e rfl ?_
      refine e_alloc (l := [.int .i64 0, .int .i64 0, .int .i64 0, .int .i64 0, .bool false]) Try.zeroValue120 rfl ?_
      intro b_6
      refine s_e0 ?_
      refine e_store (vs := [.int .i64 (((refT p).getD ((i).toNat) default).t0), .int .i64 (((refT p).getD ((i).toNat) default).t1), .int .i64 (((refT p).getD ((i).toNat) default).t2), .int .i64 (((refT p).getD ((i).toNat) default).t3), .bool (((refT p).getD ((i).toNat) default).t4)]) (l' := [.int .i64 (((refT p).getD ((i).toNat) default).t0), .int .i64 (((refT p).getD ((i).toNat) default).t1), .int .i64 (((refT p).getD ((i).toNat) default).t2), .int .i64 (((refT p).getD ((i).toNat) default).t3), .bool (((refT p).getD ((i).toNat) default).t4)]) rfl rfl rfl rfl Try.sizeOf120 .h (Nat.le_of_ble_eq_true rfl) rfl ?_
      refine wpL_nil ?_
      refine thenS_n ?_
      refine wpS_seq ?_
      refine wpS_region ?_
      refine s_y (v := .agg #[.int .i64 (p.n0), .int .i64 (p.n1), .int .i64 (p.n2), .int .i64 (p.n3)]) (y_loadN (vs := [.int .i64 (p.n0), .int .i64 (p.n1), .int .i64 (p.n2), .int .i64 (p.n3)]) rfl Try.isAgg53 Try.sizeOf53 (ownN (.t (.t .h)) rfl)) rfl ?_
      refine s_y (v := .tuple #[.int .i64 (bk p), .int .i64 ((((sl p) : Nat) : Int))]) (y_call (args := #[.agg #[.int .i64 (p.n0), .int .i64 (p.n1), .int .i64 (p.n2), .int .i64 (p.n3)]]) (v := .tuple #[.int .i64 (bk p), .int .i64 ((((sl p) : Nat) : Int))]) Try.call63 (ev1 rfl) (fun w hs => rblocks_c p w)) rfl ?_
      refine s_y (v := .tuple #[.int .i64 (bk p), .int .i64 ((((sl p) : Nat) : Int))]) (y_move rfl) rfl ?_
      refine s_y (v := .int .i64 (bk p)) (y_extract (v := .int .i64 (bk p)) rfl rfl) rfl ?_
      refine s_y (v := .int .i64 ((((sl p) : Nat) : Int))) (y_extract (v := .int .i64 ((((sl p) : Nat) : Int))) rfl rfl) rfl ?_
      refine s_y (v := .int .i64 (bk p)) (y_assign rfl) rfl ?_
      refine s_y (v := .int .i64 ((((sl p) : Nat) : Int))) (y_assign rfl) rfl ?_
      refine wpL_nil ?_
      refine thenS_n ?_
      refine wpS_seq ?_
      refine wpS_seq ?_
      refine wpS_region ?_
      refine s_y (v := .pointer (some ⟨b_6, 0, none⟩)) (y_fieldAddr (o' := 0) rfl Try.underlying120 rfl Try.sizeOf3 (by decide) rfl) rfl ?_
      refine s_y (v := .int .i64 (((refT p).getD ((i).toNat) default).t0)) (y_load1 rfl Try.isAgg3 (own1 .h rfl)) rfl ?_
      refine wpL_nil ?_
      refine thenS_n ?_
      refine wpS_block ?_
      refine wpS_seq ?_
      refine wpS_region ?_
      refine s_y (v := .bool (decide ((((refT p).getD ((i).toNat) default).t0 : Int) = 1))) (y_eql (a := ((refT p).getD ((i).toNat) default).t0) (b := 1) rfl rfl rfl) rfl ?_
      refine s_y (v := .bool (decide ((((refT p).getD ((i).toNat) default).t0 : Int) = 1))) (y_assign rfl) rfl ?_
      refine wpL_nil ?_
      refine thenS_n ?_
      refine wpS_cond (t := decide ((((refT p).getD ((i).toNat) default).t0 : Int) = 1)) rfl (fun b7 => ?_) (fun b7 => ?_)
      · -- decide ((((refT p).getD ((i).toNat) default).t0 : Int) = 1) true
        have p7 := of_decide_eq_true b7
        refine wpS_seq ?_
        refine wpS_region ?_
        refine s_y (v := .pointer (some ⟨b_6, 2, none⟩)) (y_fieldAddr (o' := 2) rfl Try.underlying120 rfl Try.sizeOf3 (by decide) rfl) rfl ?_
        refine s_y (v := .int .i64 (((refT p).getD ((i).toNat) default).t2)) (y_load1 rfl Try.isAgg3 (own1 .h rfl)) rfl ?_
        refine s_y (v := .agg #[.int .i64 0, .int .i64 0, .int .i64 (((refT p).getD ((i).toNat) default).t2)]) (y_buildL (m := [(0, .int .i64 0), (2, .int .i64 (((refT p).getD ((i).toNat) default).t2))]) (vs := #[.int .i64 0, .int .i64 0, .int .i64 (((refT p).getD ((i).toNat) default).t2)]) (evc rfl (evc rfl evn)) (fun w => by kernel_rfl)) rfl ?_
        refine s_e rfl ?_
        refine e_bsliceL (e := 144) (m := [(0, .agg #[.int .i64 0, .int .i64 0, .int .i64 (((refT p).getD ((i).toNat) default).t2)])]) (l := [.int .i64 0, .int .i64 0, .int .i64 (((refT p).getD ((i).toNat) default).t2)]) (evc rfl evn) (fun w => by kernel_rfl) ?_
        intro b_8
        refine s_y (v := .slice (some ⟨b_8, 0, none⟩) 1 1) (y_assign rfl) rfl ?_
        refine wpL_nil ?_
        refine thenS_n ?_
        refine wpS_ret ?_
        refine blockS_r ?_
        refine thenS_r ?_
        refine fin1 (M := [cel b_8 144 [.int .i64 0, .int .i64 0, .int .i64 (((refT p).getD ((i).toNat) default).t2)]]) (v := .slice (some ⟨b_8, 0, none⟩) 1 1) (.inr rfl) (.p .h .nil) Try.results125 rfl ?_
        exact fun w' hs => ⟨(some ⟨b_8, 0, none⟩, 1), by rw [show (readsP p i) = [(Spot.mk 0 0 (((refT p).getD ((i).toNat) default).t2))] from (by rw [readsP_yes hsome, ← hel, rt_1 (by assumption)] <;> rfl)]; rfl, by rw [show (readsP p i) = [(Spot.mk 0 0 (((refT p).getD ((i).toNat) default).t2))] from (by rw [readsP_yes hsome, ← hel, rt_1 (by assumption)] <;> rfl)]; exact SH.celO (n := 1) (sz := 3) .h rfl (by decide) w' hs, trivial⟩
      · -- decide ((((refT p).getD ((i).toNat) default).t0 : Int) = 1) false
        have p7 := of_decide_eq_false b7
        refine wpS_seq ?_
        refine wpS_region ?_
        refine s_y (v := .bool (decide ((((refT p).getD ((i).toNat) default).t0 : Int) = 3))) (y_eql (a := ((refT p).getD ((i).toNat) default).t0) (b := 3) rfl rfl rfl) rfl ?_
        refine s_y (v := .bool (decide ((((refT p).getD ((i).toNat) default).t0 : Int) = 3))) (y_assign rfl) rfl ?_
        refine wpL_nil ?_
        refine thenS_n ?_
        refine wpS_cond (t := decide ((((refT p).getD ((i).toNat) default).t0 : Int) = 3)) rfl (fun b9 => ?_) (fun b9 => ?_)
        · -- decide ((((refT p).getD ((i).toNat) default).t0 : Int) = 3) true
          have p9 := of_decide_eq_true b9
          refine wpS_seq ?_
          refine wpS_anyL [cel b_6 120 [.int .i64 (((refT p).getD ((i).toNat) default).t0), .int .i64 (((refT p).getD ((i).toNat) default).t1), .int .i64 (((refT p).getD ((i).toNat) default).t2), .int .i64 (((refT p).getD ((i).toNat) default).t3), .bool (((refT p).getD ((i).toNat) default).t4)]] [] (by kernel_rfl) ?_
          refine anyS_take (i := 0) rfl (by kernel_rfl) (by kernel_rfl) (by kernel_rfl) (by kernel_rfl) (Yq.of (v := .pointer (some ⟨b_6, 1, none⟩)) (y_fieldAddr (o' := 1) rfl Try.underlying120 rfl Try.sizeOf3 (by decide) rfl) rfl) (.p .h .nil) ?_
          refine anyS_take (i := 1) rfl (by kernel_rfl) (by kernel_rfl) (by kernel_rfl) (by kernel_rfl) (Yq.of (v := .int .i64 (((refT p).getD ((i).toNat) default).t1)) (y_load1 rfl Try.isAgg3 (own1 .h rfl)) rfl) (.p .h .nil) ?_
          refine anyS_take (i := 2) rfl (by kernel_rfl) (by kernel_rfl) (by kernel_rfl) (by kernel_rfl) (Yq.of (v := .int .i64 ((((refT p).getD ((i).toNat) default).t1) - 1)) (y_sub (a := ((refT p).getD ((i).toNat) default).t1) (b := 1) (c := (((refT p).getD ((i).toNat) default).t1) - 1) rfl rfl (wI rfl (by omega) (by omega))) rfl) (.p .h .nil) ?_
          refine anyS_take (i := 3) rfl (by kernel_rfl) (by kernel_rfl) (by kernel_rfl) (by kernel_rfl) (Yq.of (v := .pointer (some ⟨b_6, 2, none⟩)) (y_fieldAddr (o' := 2) rfl Try.underlying120 rfl Try.sizeOf3 (by decide) rfl) rfl) (.p .h .nil) ?_
          refine anyS_take (i := 4) rfl (by kernel_rfl) (by kernel_rfl) (by kernel_rfl) (by kernel_rfl) (Yq.of (v := .int .i64 (((refT p).getD ((i).toNat) default).t2)) (y_load1 rfl Try.isAgg3 (own1 .h rfl)) rfl) (.p .h .nil) ?_
          refine anyS_take (i := 5) rfl (by kernel_rfl) (by kernel_rfl) (by kernel_rfl) (by kernel_rfl) (Yq.of (v := .agg #[.int .i64 ((behind 2 1 ((((refT p).getD ((i).toNat) default).t1) - 1) (((refT p).getD ((i).toNat) default).t2)).s0), .int .i64 ((behind 2 1 ((((refT p).getD ((i).toNat) default).t1) - 1) (((refT p).getD ((i).toNat) default).t2)).s1), .int .i64 ((behind 2 1 ((((refT p).getD ((i).toNat) default).t1) - 1) (((refT p).getD ((i).toNat) default).t2)).s2)]) (y_call (args := #[.int .i64 1, .int .i64 2, .int .i64 ((((refT p).getD ((i).toNat) default).t1) - 1), .int .i64 (((refT p).getD ((i).toNat) default).t2)]) (v := .agg #[.int .i64 ((behind 2 1 ((((refT p).getD ((i).toNat) default).t1) - 1) (((refT p).getD ((i).toNat) default).t2)).s0), .int .i64 ((behind 2 1 ((((refT p).getD ((i).toNat) default).t1) - 1) (((refT p).getD ((i).toNat) default).t2)).s1), .int .i64 ((behind 2 1 ((((refT p).getD ((i).toNat) default).t1) - 1) (((refT p).getD ((i).toNat) default).t2)).s2)]) Try.call203 (ev4 rfl rfl rfl rfl) (fun w hs => rbehind_c 1 2 ((((refT p).getD ((i).toNat) default).t1) - 1) (((refT p).getD ((i).toNat) default).t2) w)) rfl) (.p .h .nil) ?_
          refine anyS_take (i := 6) rfl (by kernel_rfl) (by kernel_rfl) (by kernel_rfl) (by kernel_rfl) (Yq.of (v := .pointer (some ⟨b_6, 1, none⟩)) (y_fieldAddr (o' := 1) rfl Try.underlying120 rfl Try.sizeOf3 (by decide) rfl) rfl) (.p .h .nil) ?_
          refine anyS_take (i := 7) rfl (by kernel_rfl) (by kernel_rfl) (by kernel_rfl) (by kernel_rfl) (Yq.of (v := .int .i64 (((refT p).getD ((i).toNat) default).t1)) (y_load1 rfl Try.isAgg3 (own1 .h rfl)) rfl) (.p .h .nil) ?_
          refine anyS_take (i := 8) rfl (by kernel_rfl) (by kernel_rfl) (by kernel_rfl) (by kernel_rfl) (Yq.of (v := .int .i64 ((((refT p).getD ((i).toNat) default).t1) - 1)) (y_sub (a := ((refT p).getD ((i).toNat) default).t1) (b := 1) (c := (((refT p).getD ((i).toNat) default).t1) - 1) rfl rfl (wI rfl (by omega) (by omega))) rfl) (.p .h .nil) ?_
          refine anyS_take (i := 9) rfl (by kernel_rfl) (by kernel_rfl) (by kernel_rfl) (by kernel_rfl) (Yq.of (v := .pointer (some ⟨b_6, 3, none⟩)) (y_fieldAddr (o' := 3) rfl Try.underlying120 rfl Try.sizeOf3 (by decide) rfl) rfl) (.p .h .nil) ?_
          refine anyS_take (i := 10) rfl (by kernel_rfl) (by kernel_rfl) (by kernel_rfl) (by kernel_rfl) (Yq.of (v := .int .i64 (((refT p).getD ((i).toNat) default).t3)) (y_load1 rfl Try.isAgg3 (own1 .h rfl)) rfl) (.p .h .nil) ?_
          refine anyS_take (i := 11) rfl (by kernel_rfl) (by kernel_rfl) (by kernel_rfl) (by kernel_rfl) (Yq.of (v := .agg #[.int .i64 ((behind 2 1 ((((refT p).getD ((i).toNat) default).t1) - 1) (((refT p).getD ((i).toNat) default).t3)).s0), .int .i64 ((behind 2 1 ((((refT p).getD ((i).toNat) default).t1) - 1) (((refT p).getD ((i).toNat) default).t3)).s1), .int .i64 ((behind 2 1 ((((refT p).getD ((i).toNat) default).t1) - 1) (((refT p).getD ((i).toNat) default).t3)).s2)]) (y_call (args := #[.int .i64 1, .int .i64 2, .int .i64 ((((refT p).getD ((i).toNat) default).t1) - 1), .int .i64 (((refT p).getD ((i).toNat) default).t3)]) (v := .agg #[.int .i64 ((behind 2 1 ((((refT p).getD ((i).toNat) default).t1) - 1) (((refT p).getD ((i).toNat) default).t3)).s0), .int .i64 ((behind 2 1 ((((refT p).getD ((i).toNat) default).t1) - 1) (((refT p).getD ((i).toNat) default).t3)).s1), .int .i64 ((behind 2 1 ((((refT p).getD ((i).toNat) default).t1) - 1) (((refT p).getD ((i).toNat) default).t3)).s2)]) Try.call203 (ev4 rfl rfl rfl rfl) (fun w hs => rbehind_c 1 2 ((((refT p).getD ((i).toNat) default).t1) - 1) (((refT p).getD ((i).toNat) default).t3) w)) rfl) (.p .h .nil) ?_
          refine anyS_all (rs := [12]) (by kernel_rfl) (by simp) ?_
          intro i hi; obtain rfl := List.mem_singleton.1 hi; clear hi
          refine opS_0 rfl rfl ?_
          refine e_bsliceL (e := 144) (m := [(0, .agg #[.int .i64 ((behind 2 1 ((((refT p).getD ((i).toNat) default).t1) - 1) (((refT p).getD ((i).toNat) default).t2)).s0), .int .i64 ((behind 2 1 ((((refT p).getD ((i).toNat) default).t1) - 1) (((refT p).getD ((i).toNat) default).t2)).s1), .int .i64 ((behind 2 1 ((((refT p).getD ((i).toNat) default).t1) - 1) (((refT p).getD ((i).toNat) default).t2)).s2)]), (1, .agg #[.int .i64 ((behind 2 1 ((((refT p).getD ((i).toNat) default).t1) - 1) (((refT p).getD ((i).toNat) default).t3)).s0), .int .i64 ((behind 2 1 ((((refT p).getD ((i).toNat) default).t1) - 1) (((refT p).getD ((i).toNat) default).t3)).s1), .int .i64 ((behind 2 1 ((((refT p).getD ((i).toNat) default).t1) - 1) (((refT p).getD ((i).toNat) default).t3)).s2)])]) (l := [.int .i64 ((behind 2 1 ((((refT p).getD ((i).toNat) default).t1) - 1) (((refT p).getD ((i).toNat) default).t2)).s0), .int .i64 ((behind 2 1 ((((refT p).getD ((i).toNat) default).t1) - 1) (((refT p).getD ((i).toNat) default).t2)).s1), .int .i64 ((behind 2 1 ((((refT p).getD ((i).toNat) default).t1) - 1) (((refT p).getD ((i).toNat) default).t2)).s2), .int .i64 ((behind 2 1 ((((refT p).getD ((i).toNat) default).t1) - 1) (((refT p).getD ((i).toNat) default).t3)).s0), .int .i64 ((behind 2 1 ((((refT p).getD ((i).toNat) default).t1) - 1) (((refT p).getD ((i).toNat) default).t3)).s1), .int .i64 ((behind 2 1 ((((refT p).getD ((i).toNat) default).t1) - 1) (((refT p).getD ((i).toNat) default).t3)).s2)]) (evc rfl (evc rfl evn)) (fun w => by kernel_rfl) ?_
          intro b_10
          refine ⟨.inr (.p (.t .h) .nil), ?_⟩
          refine anyS_take (i := 13) rfl (by kernel_rfl) (by kernel_rfl) (by kernel_rfl) (by kernel_rfl) (Yq.of (v := .slice (some ⟨b_10, 0, none⟩) 2 2) (y_assign rfl) rfl) (.p (.t .h) .nil) ?_
          refine anyS_done (by kernel_rfl) ?_
          refine thenS_n ?_
          refine wpS_ret ?_
          refine blockS_r ?_
          refine thenS_r ?_
          refine fin1 (M := [cel b_10 144 [.int .i64 ((behind 2 1 ((((refT p).getD ((i).toNat) default).t1) - 1) (((refT p).getD ((i).toNat) default).t2)).s0), .int .i64 ((behind 2 1 ((((refT p).getD ((i).toNat) default).t1) - 1) (((refT p).getD ((i).toNat) default).t2)).s1), .int .i64 ((behind 2 1 ((((refT p).getD ((i).toNat) default).t1) - 1) (((refT p).getD ((i).toNat) default).t2)).s2), .int .i64 ((behind 2 1 ((((refT p).getD ((i).toNat) default).t1) - 1) (((refT p).getD ((i).toNat) default).t3)).s0), .int .i64 ((behind 2 1 ((((refT p).getD ((i).toNat) default).t1) - 1) (((refT p).getD ((i).toNat) default).t3)).s1), .int .i64 ((behind 2 1 ((((refT p).getD ((i).toNat) default).t1) - 1) (((refT p).getD ((i).toNat) default).t3)).s2)]]) (v := .slice (some ⟨b_10, 0, none⟩) 2 2) (.inr rfl) (.p .h .nil) Try.results125 rfl ?_
          exact fun w' hs => ⟨(some ⟨b_10, 0, none⟩, 2), by rw [show (readsP p i) = [(behind 2 1 ((((refT p).getD ((i).toNat) default).t1) - 1) (((refT p).getD ((i).toNat) default).t2)), (behind 2 1 ((((refT p).getD ((i).toNat) default).t1) - 1) (((refT p).getD ((i).toNat) default).t3))] from (by rw [readsP_yes hsome, ← hel, rt_3 (by assumption)] <;> rfl)]; rfl, by rw [show (readsP p i) = [(behind 2 1 ((((refT p).getD ((i).toNat) default).t1) - 1) (((refT p).getD ((i).toNat) default).t2)), (behind 2 1 ((((refT p).getD ((i).toNat) default).t1) - 1) (((refT p).getD ((i).toNat) default).t3))] from (by rw [readsP_yes hsome, ← hel, rt_3 (by assumption)] <;> rfl)]; exact SH.celO (n := 2) (sz := 3) .h rfl (by decide) w' hs, trivial⟩
        · -- decide ((((refT p).getD ((i).toNat) default).t0 : Int) = 3) false
          have p9 := of_decide_eq_false b9
          refine wpS_seq ?_
          refine wpS_region ?_
          refine s_y (v := .bool (decide ((((refT p).getD ((i).toNat) default).t0 : Int) = 4))) (y_eql (a := ((refT p).getD ((i).toNat) default).t0) (b := 4) rfl rfl rfl) rfl ?_
          refine s_y (v := .bool (decide ((((refT p).getD ((i).toNat) default).t0 : Int) = 4))) (y_assign rfl) rfl ?_
          refine wpL_nil ?_
          refine thenS_n ?_
          refine wpS_cond (t := decide ((((refT p).getD ((i).toNat) default).t0 : Int) = 4)) rfl (fun b11 => ?_) (fun b11 => ?_)
          · -- decide ((((refT p).getD ((i).toNat) default).t0 : Int) = 4) true
            have p11 := of_decide_eq_true b11
            refine wpS_seq ?_
            refine wpS_anyL [cel b_6 120 [.int .i64 (((refT p).getD ((i).toNat) default).t0), .int .i64 (((refT p).getD ((i).toNat) default).t1), .int .i64 (((refT p).getD ((i).toNat) default).t2), .int .i64 (((refT p).getD ((i).toNat) default).t3), .bool (((refT p).getD ((i).toNat) default).t4)]] [] (by kernel_rfl) ?_
            refine anyS_take (i := 0) rfl (by kernel_rfl) (by kernel_rfl) (by kernel_rfl) (by kernel_rfl) (Yq.of (v := .int .i64 ((((sl p) : Nat) : Int))) (y_move rfl) rfl) (.p .h .nil) ?_
            refine anyS_take (i := 1) rfl (by kernel_rfl) (by kernel_rfl) (by kernel_rfl) (by kernel_rfl) (Yq.of (v := .int .i64 ((((rnd ((((sl p) : Nat) : Int))) : Nat) : Int))) (y_call (args := #[.int .i64 ((((sl p) : Nat) : Int))]) (v := .int .i64 ((((rnd ((((sl p) : Nat) : Int))) : Nat) : Int))) Try.call56 (ev1 rfl) (fun w hs => rrnd_c ((((sl p) : Nat) : Int)) (by omega) (by omega) w)) rfl) (.p .h .nil) ?_
            refine anyS_take (i := 2) rfl (by kernel_rfl) (by kernel_rfl) (by kernel_rfl) (by kernel_rfl) (Yq.of (v := .pointer (some ⟨b_6, 2, none⟩)) (y_fieldAddr (o' := 2) rfl Try.underlying120 rfl Try.sizeOf3 (by decide) rfl) rfl) (.p .h .nil) ?_
            refine anyS_take (i := 3) rfl (by kernel_rfl) (by kernel_rfl) (by kernel_rfl) (by kernel_rfl) (Yq.of (v := .int .i64 (((refT p).getD ((i).toNat) default).t2)) (y_load1 rfl Try.isAgg3 (own1 .h rfl)) rfl) (.p .h .nil) ?_
            refine anyS_take (i := 4) rfl (by kernel_rfl) (by kernel_rfl) (by kernel_rfl) (by kernel_rfl) (Yq.of (v := .agg #[.int .i64 ((behind 2 1 (((rnd ((((sl p) : Nat) : Int))) : Nat) : Int) (((refT p).getD ((i).toNat) default).t2)).s0), .int .i64 ((behind 2 1 (((rnd ((((sl p) : Nat) : Int))) : Nat) : Int) (((refT p).getD ((i).toNat) default).t2)).s1), .int .i64 ((behind 2 1 (((rnd ((((sl p) : Nat) : Int))) : Nat) : Int) (((refT p).getD ((i).toNat) default).t2)).s2)]) (y_call (args := #[.int .i64 1, .int .i64 2, .int .i64 ((((rnd ((((sl p) : Nat) : Int))) : Nat) : Int)), .int .i64 (((refT p).getD ((i).toNat) default).t2)]) (v := .agg #[.int .i64 ((behind 2 1 (((rnd ((((sl p) : Nat) : Int))) : Nat) : Int) (((refT p).getD ((i).toNat) default).t2)).s0), .int .i64 ((behind 2 1 (((rnd ((((sl p) : Nat) : Int))) : Nat) : Int) (((refT p).getD ((i).toNat) default).t2)).s1), .int .i64 ((behind 2 1 (((rnd ((((sl p) : Nat) : Int))) : Nat) : Int) (((refT p).getD ((i).toNat) default).t2)).s2)]) Try.call203 (ev4 rfl rfl rfl rfl) (fun w hs => rbehind_c 1 2 (((rnd ((((sl p) : Nat) : Int))) : Nat) : Int) (((refT p).getD ((i).toNat) default).t2) w)) rfl) (.p .h .nil) ?_
            refine anyS_all (rs := [5]) (by kernel_rfl) (by simp) ?_
            intro i hi; obtain rfl := List.mem_singleton.1 hi; clear hi
            refine opS_0 rfl rfl ?_
            refine e_bsliceL (e := 144) (m := [(0, .agg #[.int .i64 ((behind 2 1 (((rnd ((((sl p) : Nat) : Int))) : Nat) : Int) (((refT p).getD ((i).toNat) default).t2)).s0), .int .i64 ((behind 2 1 (((rnd ((((sl p) : Nat) : Int))) : Nat) : Int) (((refT p).getD ((i).toNat) default).t2)).s1), .int .i64 ((behind 2 1 (((rnd ((((sl p) : Nat) : Int))) : Nat) : Int) (((refT p).getD ((i).toNat) default).t2)).s2)])]) (l := [.int .i64 ((behind 2 1 (((rnd ((((sl p) : Nat) : Int))) : Nat) : Int) (((refT p).getD ((i).toNat) default).t2)).s0), .int .i64 ((behind 2 1 (((rnd ((((sl p) : Nat) : Int))) : Nat) : Int) (((refT p).getD ((i).toNat) default).t2)).s1), .int .i64 ((behind 2 1 (((rnd ((((sl p) : Nat) : Int))) : Nat) : Int) (((refT p).getD ((i).toNat) default).t2)).s2)]) (evc rfl evn) (fun w => by kernel_rfl) ?_
            intro b_12
            refine ⟨.inr (.p (.t .h) .nil), ?_⟩
            refine anyS_take (i := 6) rfl (by kernel_rfl) (by kernel_rfl) (by kernel_rfl) (by kernel_rfl) (Yq.of (v := .slice (some ⟨b_12, 0, none⟩) 1 1) (y_assign rfl) rfl) (.p (.t .h) .nil) ?_
            refine anyS_done (by kernel_rfl) ?_
            refine thenS_n ?_
            refine wpS_seq ?_
            refine wpS_seq ?_
            refine wpS_region ?_
            refine s_y (v := .pointer (some ⟨b_6, 2, none⟩)) (y_fieldAddr (o' := 2) rfl Try.underlying120 rfl Try.sizeOf3 (by decide) rfl) rfl ?_
            refine s_y (v := .int .i64 (((refT p).getD ((i).toNat) default).t2)) (y_load1 rfl Try.isAgg3 (own1 (.t .h) rfl)) rfl ?_
            refine s_y (v := .bool (decide ((0 : Int) < (((refT p).getD ((i).toNat) default).t2)))) (y_gtr (a := ((refT p).getD ((i).toNat) default).t2) (b := 0) rfl rfl rfl) rfl ?_
            refine wpL_nil ?_
            refine thenS_n ?_
            refine wpS_cond (t := decide ((0 : Int) < (((refT p).getD ((i).toNat) default).t2))) rfl (fun b13 => ?_) (fun b13 => ?_)
            · -- decide ((0 : Int) < (((refT p).getD ((i).toNat) default).t2)) true
              have p13 := of_decide_eq_true b13
              refine wpS_region ?_
              refine s_y (v := .slice (some ⟨b_12, 0, none⟩) 1 1) (y_move rfl) rfl ?_
              refine s_y (v := .pointer (some ⟨b_6, 2, none⟩)) (y_fieldAddr (o' := 2) rfl Try.underlying120 rfl Try.sizeOf3 (by decide) rfl) rfl ?_
              refine s_y (v := .int .i64 (((refT p).getD ((i).toNat) default).t2)) (y_load1 rfl Try.isAgg3 (own1 (.t .h) rfl)) rfl ?_
              refine s_y (v := .int .i64 ((((refT p).getD ((i).toNat) default).t2) - 1)) (y_sub (a := ((refT p).getD ((i).toNat) default).t2) (b := 1) (c := (((refT p).getD ((i).toNat) default).t2) - 1) rfl rfl (wI rfl (by omega) (by omega))) rfl ?_
              refine s_y (v := .agg #[.int .i64 4, .int .i64 0, .int .i64 ((((refT p).getD ((i).toNat) default).t2) - 1)]) (y_buildL (m := [(0, .int .i64 4), (2, .int .i64 ((((refT p).getD ((i).toNat) default).t2) - 1))]) (vs := #[.int .i64 4, .int .i64 0, .int .i64 ((((refT p).getD ((i).toNat) default).t2) - 1)]) (evc rfl (evc rfl evn)) (fun w => by kernel_rfl)) rfl ?_
              refine s_e rfl ?_
              refine e_bsliceL (e := 144) (m := [(0, .agg #[.int .i64 4, .int .i64 0, .int .i64 ((((refT p).getD ((i).toNat) default).t2) - 1)])]) (l := [.int .i64 4, .int .i64 0, .int .i64 ((((refT p).getD ((i).toNat) default).t2) - 1)]) (evc rfl evn) (fun w => by kernel_rfl) ?_
              intro b_14
              refine s_e rfl ?_
              refine OpE.ent (SH.celO (n := 1) (sz := 3) (.t .h) rfl (by decide)) ?_
              refine e_appendL (enc := spotV) (xs := ([(behind 2 1 (((rnd ((((sl p) : Nat) : Int))) : Nat) : Int) (((refT p).getD ((i).toNat) default).t2))] : List Spot)) (ns := ([(Spot.mk 4 0 ((((refT p).getD ((i).toNat) default).t2) - 1))] : List Spot)) (zs := ([(behind 2 1 (((rnd ((((sl p) : Nat) : Int))) : Nat) : Int) (((refT p).getD ((i).toNat) default).t2))] ++ [(Spot.mk 4 0 ((((refT p).getD ((i).toNat) default).t2) - 1))])) (bytes := 24) spotV_len spotV_one Try.underlying58 (i := Try.t144) rfl rfl rfl rfl rfl (by decide) rfl rfl (by first | rfl | omega) (by first | rfl | omega) .h (fun w hs => celR (.t .h) w hs) (by first | rfl | simp) (by (try simp only [List.length_append, List.length_cons, List.length_nil] at *); omega) (by (try simp only [List.length_append, List.length_cons, List.length_nil] at *); omega) ?_
              intro a_16 c_17
              refine s_y (v := .slice a_16 (([(behind 2 1 (((rnd ((((sl p) : Nat) : Int))) : Nat) : Int) (((refT p).getD ((i).toNat) default).t2))] ++ [(Spot.mk 4 0 ((((refT p).getD ((i).toNat) default).t2) - 1))]).length) c_17) (y_assign rfl) rfl ?_
              refine wpL_nil ?_
              refine thenS_n ?_
              refine wpS_seq ?_
              refine wpS_region ?_
              refine s_y (v := .slice a_16 (([(behind 2 1 (((rnd ((((sl p) : Nat) : Int))) : Nat) : Int) (((refT p).getD ((i).toNat) default).t2))] ++ [(Spot.mk 4 0 ((((refT p).getD ((i).toNat) default).t2) - 1))]).length) c_17) (y_move rfl) rfl ?_
              refine s_y (v := .slice a_16 (([(behind 2 1 (((rnd ((((sl p) : Nat) : Int))) : Nat) : Int) (((refT p).getD ((i).toNat) default).t2))] ++ [(Spot.mk 4 0 ((((refT p).getD ((i).toNat) default).t2) - 1))]).length) c_17) (y_assign rfl) rfl ?_
              refine wpL_nil ?_
              refine thenS_n ?_
              refine wpS_ret ?_
              refine blockS_r ?_
              refine thenS_r ?_
              refine fin1 (M := [osl a_16 c_17 (([(behind 2 1 (((rnd ((((sl p) : Nat) : Int))) : Nat) : Int) (((refT p).getD ((i).toNat) default).t2))] ++ [(Spot.mk 4 0 ((((refT p).getD ((i).toNat) default).t2) - 1))]).length) 3 144 (([(behind 2 1 (((rnd ((((sl p) : Nat) : Int))) : Nat) : Int) (((refT p).getD ((i).toNat) default).t2))] ++ [(Spot.mk 4 0 ((((refT p).getD ((i).toNat) default).t2) - 1))]).flatMap spotV)]) (v := .slice a_16 (([(behind 2 1 (((rnd ((((sl p) : Nat) : Int))) : Nat) : Int) (((refT p).getD ((i).toNat) default).t2))] ++ [(Spot.mk 4 0 ((((refT p).getD ((i).toNat) default).t2) - 1))]).length) c_17) (.inr rfl) (.p .h .nil) Try.results125 rfl ?_
              exact fun w' hs => ⟨(a_16, c_17), by rw [show (readsP p i) = ([(behind 2 1 (((rnd ((((sl p) : Nat) : Int))) : Nat) : Int) (((refT p).getD ((i).toNat) default).t2))] ++ [(Spot.mk 4 0 ((((refT p).getD ((i).toNat) default).t2) - 1))]) from (by rw [readsP_yes hsome, ← hel, rt_4a (by assumption) (by omega)] <;> rfl)], by rw [show (readsP p i) = ([(behind 2 1 (((rnd ((((sl p) : Nat) : Int))) : Nat) : Int) (((refT p).getD ((i).toNat) default).t2))] ++ [(Spot.mk 4 0 ((((refT p).getD ((i).toNat) default).t2) - 1))]) from (by rw [readsP_yes hsome, ← hel, rt_4a (by assumption) (by omega)] <;> rfl)]; exact hs, trivial⟩
            · -- decide ((0 : Int) < (((refT p).getD ((i).toNat) default).t2)) false
              have p13 := of_decide_eq_false b13
              refine wpS_skip ?_
              refine thenS_n ?_
              refine wpS_seq ?_
              refine wpS_region ?_
              refine s_y (v := .slice (some ⟨b_12, 0, none⟩) 1 1) (y_move rfl) rfl ?_
              refine s_y (v := .slice (some ⟨b_12, 0, none⟩) 1 1) (y_assign rfl) rfl ?_
              refine wpL_nil ?_
              refine thenS_n ?_
              refine wpS_ret ?_
              refine blockS_r ?_
              refine thenS_r ?_
              refine fin1 (M := [cel b_12 144 [.int .i64 ((behind 2 1 (((rnd ((((sl p) : Nat) : Int))) : Nat) : Int) (((refT p).getD ((i).toNat) default).t2)).s0), .int .i64 ((behind 2 1 (((rnd ((((sl p) : Nat) : Int))) : Nat) : Int) (((refT p).getD ((i).toNat) default).t2)).s1), .int .i64 ((behind 2 1 (((rnd ((((sl p) : Nat) : Int))) : Nat) : Int) (((refT p).getD ((i).toNat) default).t2)).s2)]]) (v := .slice (some ⟨b_12, 0, none⟩) 1 1) (.inr rfl) (.p .h .nil) Try.results125 rfl ?_
              exact fun w' hs => ⟨(some ⟨b_12, 0, none⟩, 1), by rw [show (readsP p i) = [(behind 2 1 (((rnd ((((sl p) : Nat) : Int))) : Nat) : Int) (((refT p).getD ((i).toNat) default).t2))] from (by rw [readsP_yes hsome, ← hel, rt_4b (by assumption) (by omega)] <;> rfl)]; rfl, by rw [show (readsP p i) = [(behind 2 1 (((rnd ((((sl p) : Nat) : Int))) : Nat) : Int) (((refT p).getD ((i).toNat) default).t2))] from (by rw [readsP_yes hsome, ← hel, rt_4b (by assumption) (by omega)] <;> rfl)]; exact SH.celO (n := 1) (sz := 3) .h rfl (by decide) w' hs, trivial⟩
          · -- decide ((((refT p).getD ((i).toNat) default).t0 : Int) = 4) false
            have p11 := of_decide_eq_false b11
            refine wpS_seq ?_
            refine wpS_region ?_
            refine s_y (v := .bool (decide ((((refT p).getD ((i).toNat) default).t0 : Int) = 5))) (y_eql (a := ((refT p).getD ((i).toNat) default).t0) (b := 5) rfl rfl rfl) rfl ?_
            refine s_y (v := .bool (decide ((((refT p).getD ((i).toNat) default).t0 : Int) = 5))) (y_assign rfl) rfl ?_
            refine wpL_nil ?_
            refine thenS_n ?_
            refine wpS_cond (t := decide ((((refT p).getD ((i).toNat) default).t0 : Int) = 5)) rfl (fun b18 => ?_) (fun b18 => ?_)
            · -- decide ((((refT p).getD ((i).toNat) default).t0 : Int) = 5) true
              have p18 := of_decide_eq_true b18
              refine wpS_seq ?_
              refine wpS_anyL [cel b_6 120 [.int .i64 (((refT p).getD ((i).toNat) default).t0), .int .i64 (((refT p).getD ((i).toNat) default).t1), .int .i64 (((refT p).getD ((i).toNat) default).t2), .int .i64 (((refT p).getD ((i).toNat) default).t3), .bool (((refT p).getD ((i).toNat) default).t4)]] [] (by kernel_rfl) ?_
              refine anyS_take (i := 0) rfl (by kernel_rfl) (by kernel_rfl) (by kernel_rfl) (by kernel_rfl) (Yq.of (v := .pointer (some ⟨b_6, 1, none⟩)) (y_fieldAddr (o' := 1) rfl Try.underlying120 rfl Try.sizeOf3 (by decide) rfl) rfl) (.p .h .nil) ?_
              refine anyS_take (i := 1) rfl (by kernel_rfl) (by kernel_rfl) (by kernel_rfl) (by kernel_rfl) (Yq.of (v := .int .i64 (((refT p).getD ((i).toNat) default).t1)) (y_load1 rfl Try.isAgg3 (own1 .h rfl)) rfl) (.p .h .nil) ?_
              refine anyS_take (i := 2) rfl (by kernel_rfl) (by kernel_rfl) (by kernel_rfl) (by kernel_rfl) (Yq.of (v := .int .i64 ((((refT p).getD ((i).toNat) default).t1) - 1)) (y_sub (a := ((refT p).getD ((i).toNat) default).t1) (b := 1) (c := (((refT p).getD ((i).toNat) default).t1) - 1) rfl rfl (wI rfl (by omega) (by omega))) rfl) (.p .h .nil) ?_
              refine anyS_take (i := 3) rfl (by kernel_rfl) (by kernel_rfl) (by kernel_rfl) (by kernel_rfl) (Yq.of (v := .pointer (some ⟨b_6, 2, none⟩)) (y_fieldAddr (o' := 2) rfl Try.underlying120 rfl Try.sizeOf3 (by decide) rfl) rfl) (.p .h .nil) ?_
              refine anyS_take (i := 4) rfl (by kernel_rfl) (by kernel_rfl) (by kernel_rfl) (by kernel_rfl) (Yq.of (v := .int .i64 (((refT p).getD ((i).toNat) default).t2)) (y_load1 rfl Try.isAgg3 (own1 .h rfl)) rfl) (.p .h .nil) ?_
              refine anyS_take (i := 5) rfl (by kernel_rfl) (by kernel_rfl) (by kernel_rfl) (by kernel_rfl) (Yq.of (v := .agg #[.int .i64 ((behind 5 3 ((((refT p).getD ((i).toNat) default).t1) - 1) (((refT p).getD ((i).toNat) default).t2)).s0), .int .i64 ((behind 5 3 ((((refT p).getD ((i).toNat) default).t1) - 1) (((refT p).getD ((i).toNat) default).t2)).s1), .int .i64 ((behind 5 3 ((((refT p).getD ((i).toNat) default).t1) - 1) (((refT p).getD ((i).toNat) default).t2)).s2)]) (y_call (args := #[.int .i64 3, .int .i64 5, .int .i64 ((((refT p).getD ((i).toNat) default).t1) - 1), .int .i64 (((refT p).getD ((i).toNat) default).t2)]) (v := .agg #[.int .i64 ((behind 5 3 ((((refT p).getD ((i).toNat) default).t1) - 1) (((refT p).getD ((i).toNat) default).t2)).s0), .int .i64 ((behind 5 3 ((((refT p).getD ((i).toNat) default).t1) - 1) (((refT p).getD ((i).toNat) default).t2)).s1), .int .i64 ((behind 5 3 ((((refT p).getD ((i).toNat) default).t1) - 1) (((refT p).getD ((i).toNat) default).t2)).s2)]) Try.call203 (ev4 rfl rfl rfl rfl) (fun w hs => rbehind_c 3 5 ((((refT p).getD ((i).toNat) default).t1) - 1) (((refT p).getD ((i).toNat) default).t2) w)) rfl) (.p .h .nil) ?_
              refine anyS_take (i := 6) rfl (by kernel_rfl) (by kernel_rfl) (by kernel_rfl) (by kernel_rfl) (Yq.of (v := .pointer (some ⟨b_6, 1, none⟩)) (y_fieldAddr (o' := 1) rfl Try.underlying120 rfl Try.sizeOf3 (by decide) rfl) rfl) (.p .h .nil) ?_
              refine anyS_take (i := 7) rfl (by kernel_rfl) (by kernel_rfl) (by kernel_rfl) (by kernel_rfl) (Yq.of (v := .int .i64 (((refT p).getD ((i).toNat) default).t1)) (y_load1 rfl Try.isAgg3 (own1 .h rfl)) rfl) (.p .h .nil) ?_
              refine anyS_take (i := 8) rfl (by kernel_rfl) (by kernel_rfl) (by kernel_rfl) (by kernel_rfl) (Yq.of (v := .int .i64 ((((refT p).getD ((i).toNat) default).t1) - 1)) (y_sub (a := ((refT p).getD ((i).toNat) default).t1) (b := 1) (c := (((refT p).getD ((i).toNat) default).t1) - 1) rfl rfl (wI rfl (by omega) (by omega))) rfl) (.p .h .nil) ?_
              refine anyS_take (i := 9) rfl (by kernel_rfl) (by kernel_rfl) (by kernel_rfl) (by kernel_rfl) (Yq.of (v := .pointer (some ⟨b_6, 3, none⟩)) (y_fieldAddr (o' := 3) rfl Try.underlying120 rfl Try.sizeOf3 (by decide) rfl) rfl) (.p .h .nil) ?_
              refine anyS_take (i := 10) rfl (by kernel_rfl) (by kernel_rfl) (by kernel_rfl) (by kernel_rfl) (Yq.of (v := .int .i64 (((refT p).getD ((i).toNat) default).t3)) (y_load1 rfl Try.isAgg3 (own1 .h rfl)) rfl) (.p .h .nil) ?_
              refine anyS_take (i := 11) rfl (by kernel_rfl) (by kernel_rfl) (by kernel_rfl) (by kernel_rfl) (Yq.of (v := .agg #[.int .i64 ((behind 5 3 ((((refT p).getD ((i).toNat) default).t1) - 1) (((refT p).getD ((i).toNat) default).t3)).s0), .int .i64 ((behind 5 3 ((((refT p).getD ((i).toNat) default).t1) - 1) (((refT p).getD ((i).toNat) default).t3)).s1), .int .i64 ((behind 5 3 ((((refT p).getD ((i).toNat) default).t1) - 1) (((refT p).getD ((i).toNat) default).t3)).s2)]) (y_call (args := #[.int .i64 3, .int .i64 5, .int .i64 ((((refT p).getD ((i).toNat) default).t1) - 1), .int .i64 (((refT p).getD ((i).toNat) default).t3)]) (v := .agg #[.int .i64 ((behind 5 3 ((((refT p).getD ((i).toNat) default).t1) - 1) (((refT p).getD ((i).toNat) default).t3)).s0), .int .i64 ((behind 5 3 ((((refT p).getD ((i).toNat) default).t1) - 1) (((refT p).getD ((i).toNat) default).t3)).s1), .int .i64 ((behind 5 3 ((((refT p).getD ((i).toNat) default).t1) - 1) (((refT p).getD ((i).toNat) default).t3)).s2)]) Try.call203 (ev4 rfl rfl rfl rfl) (fun w hs => rbehind_c 3 5 ((((refT p).getD ((i).toNat) default).t1) - 1) (((refT p).getD ((i).toNat) default).t3) w)) rfl) (.p .h .nil) ?_
              refine anyS_all (rs := [12]) (by kernel_rfl) (by simp) ?_
              intro i hi; obtain rfl := List.mem_singleton.1 hi; clear hi
              refine opS_0 rfl rfl ?_
              refine e_bsliceL (e := 144) (m := [(0, .agg #[.int .i64 ((behind 5 3 ((((refT p).getD ((i).toNat) default).t1) - 1) (((refT p).getD ((i).toNat) default).t2)).s0), .int .i64 ((behind 5 3 ((((refT p).getD ((i).toNat) default).t1) - 1) (((refT p).getD ((i).toNat) default).t2)).s1), .int .i64 ((behind 5 3 ((((refT p).getD ((i).toNat) default).t1) - 1) (((refT p).getD ((i).toNat) default).t2)).s2)]), (1, .agg #[.int .i64 ((behind 5 3 ((((refT p).getD ((i).toNat) default).t1) - 1) (((refT p).getD ((i).toNat) default).t3)).s0), .int .i64 ((behind 5 3 ((((refT p).getD ((i).toNat) default).t1) - 1) (((refT p).getD ((i).toNat) default).t3)).s1), .int .i64 ((behind 5 3 ((((refT p).getD ((i).toNat) default).t1) - 1) (((refT p).getD ((i).toNat) default).t3)).s2)])]) (l := [.int .i64 ((behind 5 3 ((((refT p).getD ((i).toNat) default).t1) - 1) (((refT p).getD ((i).toNat) default).t2)).s0), .int .i64 ((behind 5 3 ((((refT p).getD ((i).toNat) default).t1) - 1) (((refT p).getD ((i).toNat) default).t2)).s1), .int .i64 ((behind 5 3 ((((refT p).getD ((i).toNat) default).t1) - 1) (((refT p).getD ((i).toNat) default).t2)).s2), .int .i64 ((behind 5 3 ((((refT p).getD ((i).toNat) default).t1) - 1) (((refT p).getD ((i).toNat) default).t3)).s0), .int .i64 ((behind 5 3 ((((refT p).getD ((i).toNat) default).t1) - 1) (((refT p).getD ((i).toNat) default).t3)).s1), .int .i64 ((behind 5 3 ((((refT p).getD ((i).toNat) default).t1) - 1) (((refT p).getD ((i).toNat) default).t3)).s2)]) (evc rfl (evc rfl evn)) (fun w => by kernel_rfl) ?_
              intro b_19
              refine ⟨.inr (.p (.t .h) .nil), ?_⟩
              refine anyS_take (i := 13) rfl (by kernel_rfl) (by kernel_rfl) (by kernel_rfl) (by kernel_rfl) (Yq.of (v := .slice (some ⟨b_19, 0, none⟩) 2 2) (y_assign rfl) rfl) (.p (.t .h) .nil) ?_
              refine anyS_done (by kernel_rfl) ?_
              refine thenS_n ?_
              refine wpS_ret ?_
              refine blockS_r ?_
              refine thenS_r ?_
              refine fin1 (M := [cel b_19 144 [.int .i64 ((behind 5 3 ((((refT p).getD ((i).toNat) default).t1) - 1) (((refT p).getD ((i).toNat) default).t2)).s0), .int .i64 ((behind 5 3 ((((refT p).getD ((i).toNat) default).t1) - 1) (((refT p).getD ((i).toNat) default).t2)).s1), .int .i64 ((behind 5 3 ((((refT p).getD ((i).toNat) default).t1) - 1) (((refT p).getD ((i).toNat) default).t2)).s2), .int .i64 ((behind 5 3 ((((refT p).getD ((i).toNat) default).t1) - 1) (((refT p).getD ((i).toNat) default).t3)).s0), .int .i64 ((behind 5 3 ((((refT p).getD ((i).toNat) default).t1) - 1) (((refT p).getD ((i).toNat) default).t3)).s1), .int .i64 ((behind 5 3 ((((refT p).getD ((i).toNat) default).t1) - 1) (((refT p).getD ((i).toNat) default).t3)).s2)]]) (v := .slice (some ⟨b_19, 0, none⟩) 2 2) (.inr rfl) (.p .h .nil) Try.results125 rfl ?_
              exact fun w' hs => ⟨(some ⟨b_19, 0, none⟩, 2), by rw [show (readsP p i) = [(behind 5 3 ((((refT p).getD ((i).toNat) default).t1) - 1) (((refT p).getD ((i).toNat) default).t2)), (behind 5 3 ((((refT p).getD ((i).toNat) default).t1) - 1) (((refT p).getD ((i).toNat) default).t3))] from (by rw [readsP_yes hsome, ← hel, rt_5 (by assumption)] <;> rfl)]; rfl, by rw [show (readsP p i) = [(behind 5 3 ((((refT p).getD ((i).toNat) default).t1) - 1) (((refT p).getD ((i).toNat) default).t2)), (behind 5 3 ((((refT p).getD ((i).toNat) default).t1) - 1) (((refT p).getD ((i).toNat) default).t3))] from (by rw [readsP_yes hsome, ← hel, rt_5 (by assumption)] <;> rfl)]; exact SH.celO (n := 2) (sz := 3) .h rfl (by decide) w' hs, trivial⟩
            · -- decide ((((refT p).getD ((i).toNat) default).t0 : Int) = 5) false
              have p18 := of_decide_eq_false b18
              refine wpS_skip ?_
              refine blockS_n ?_
              refine thenS_n ?_
              refine wpS_seq ?_
              refine wpS_region ?_
              refine s_y (v := .slice none 0 0) (y_assign rfl) rfl ?_
              refine wpL_nil ?_
              refine thenS_n ?_
              refine wpS_ret ?_
              refine finNil (.inr rfl) .nil Try.results125 rfl (sz := 3) (ty := 144) ?_
              exact fun w' hs => ⟨(none, 0), by rw [show (readsP p i) = [] from (by rw [readsP_yes hsome, ← hel, rt_n (by assumption) (by assumption) (by assumption) (by assumption)] <;> rfl)]; rfl, by rw [show (readsP p i) = [] from (by rw [readsP_yes hsome, ← hel, rt_n (by assumption) (by assumption) (by assumption) (by assumption)] <;> rfl)]; exact hs, trivial⟩

theorem rwrites_c (p : Par) (i : Int) (hsm : Small p) (w : World) : MakesS Try.prog 127 #[.agg #[.int .i64 (p.n0), .int .i64 (p.n1), .int .i64 (p.n2), .int .i64 (p.n3)], .int .i64 i] w [] spotV 3 144 (writesP p i) := by
  refine calls_S (n := 22) (σ0 := (upd (upd fr0 0 (.agg #[.int .i64 (p.n0), .int .i64 (p.n1), .int .i64 (p.n2), .int .i64 (p.n3)])) 1 (.int .i64 i))) (D := []) (A := []) Try.func127 rfl Try.ntmps127 rfl (a2_fr _ _) (SH.start w) ?_
  have h88 := hsm.h8
  have hrl := hsm.rlen
  have hcl := hsm.len
  refine wpS_seq ?_
  refine wpS_region ?_
  refine s_e rfl ?_
  refine e_box (v := .agg #[.int .i64 (p.n0), .int .i64 (p.n1), .int .i64 (p.n2), .int .i64 (p.n3)]) (l := [.int .i64 (p.n0), .int .i64 (p.n1), .int .i64 (p.n2), .int .i64 (p.n3)]) rfl rfl ?_
  intro b_1
  refine s_y (v := .slice none 0 0) (y_assign rfl) rfl ?_
  refine wpL_nil ?_
  refine thenS_n ?_
  refine wpS_seq ?_
  refine wpS_region ?_
  refine s_y (v := .agg #[.int .i64 (p.n0), .int .i64 (p.n1), .int .i64 (p.n2), .int .i64 (p.n3)]) (y_loadN (vs := [.int .i64 (p.n0), .int .i64 (p.n1), .int .i64 (p.n2), .int .i64 (p.n3)]) rfl Try.isAgg53 Try.sizeOf53 (ownN .h rfl)) rfl ?_
  refine s_e rfl ?_
  refine e_call (f := 97) (args := #[.agg #[.int .i64 (p.n0), .int .i64 (p.n1), .int .i64 (p.n2), .int .i64 (p.n3)]]) (X := Option Addr × Nat) (A := []) (M := [cel b_1 53 [.int .i64 (p.n0), .int .i64 (p.n1), .int .i64 (p.n2), .int .i64 (p.n3)]]) (V := slV (refT p)) (A' := fun x => [slR taskV 5 120 (refT p) x]) (C := fun _ => True) Try.call97 (ev1 rfl) (.p .h .nil) (fun w hs => rtasks_c p hsm.h8 w) ?_
  rintro ⟨a_2, c_3⟩ -
  refine s_y (v := .slice a_2 ((refT p).length) c_3) (y_assign rfl) rfl ?_
  refine wpL_nil ?_
  refine thenS_n ?_
  refine wpS_seq ?_
  refine wpS_seq ?_
  refine wpS_region ?_
  refine s_y (v := .int .i64 i) (y_move rfl) rfl ?_
  refine s_y (v := .bool (decide ((i : Int) < 0))) (y_lss (a := i) (b := 0) rfl rfl rfl) rfl ?_
  refine s_y (v := .bool (decide ((i : Int) < 0))) (y_move rfl) rfl ?_
  rcases Bool.eq_false_or_eq_true (decide ((i : Int) < 0)) with b4 | b4
  · -- decide ((i : Int) < 0) True
    have p4 := of_decide_eq_true b4
    refine s_no rfl rfl rfl rfl (b' := decide ((i : Int) < 0)) rfl b4 ?_
    refine s_no rfl rfl rfl rfl (b' := decide ((i : Int) < 0)) rfl b4 ?_
    refine s_no rfl rfl rfl rfl (b' := decide ((i : Int) < 0)) rfl b4 ?_
    refine s_no rfl rfl rfl rfl (b' := decide ((i : Int) < 0)) rfl b4 ?_
    refine s_y (v := .bool true) (y_pickT (b := decide ((i : Int) < 0)) (v := .bool true) rfl b4 rfl) rfl ?_
    refine wpL_nil ?_
    refine thenS_n ?_
    refine wpS_cond_t rfl ?_
    refine wpS_seq ?_
    refine wpS_region ?_
    refine s_y (v := .slice none 0 0) (y_assign rfl) rfl ?_
    refine wpL_nil ?_
    refine thenS_n ?_
    refine wpS_ret ?_
    refine thenS_r ?_
    refine finNil (.inr rfl) .nil Try.results127 rfl (sz := 3) (ty := 144) ?_
    exact fun w' hs => ⟨(none, 0), by rw [show (writesP p i) = [] from (writesP_no (ref_no hsm (by omega)))]; rfl, by rw [show (writesP p i) = [] from (writesP_no (ref_no hsm (by omega)))]; exact hs, trivial⟩
  · -- decide ((i : Int) < 0) False
    have p4 := of_decide_eq_false b4
    refine s_gy (y_move rfl) rfl rfl rfl rfl (b' := decide ((i : Int) < 0)) rfl b4 ?_
    refine s_gy (y_move rfl) rfl rfl rfl rfl (b' := decide ((i : Int) < 0)) rfl b4 ?_
    refine s_gy (y_len (ty' := 0) (at_ := #[]) rfl Try.underlying115) rfl rfl rfl rfl (b' := decide ((i : Int) < 0)) rfl b4 ?_
    refine s_gy (y_geq (a := i) (b := (((refT p).length : Nat) : Int)) rfl rfl rfl) rfl rfl rfl rfl (b' := decide ((i : Int) < 0)) rfl b4 ?_
    refine s_y (v := .bool (decide (((((refT p).length : Nat) : Int) : Int) ≤ i))) (y_pickF (b := decide ((i : Int) < 0)) (v := .bool (decide (((((refT p).length : Nat) : Int) : Int) ≤ i))) rfl b4 rfl) rfl ?_
    refine wpL_nil ?_
    refine thenS_n ?_
    refine wpS_cond (t := decide (((((refT p).length : Nat) : Int) : Int) ≤ i)) rfl (fun b5 => ?_) (fun b5 => ?_)
    · -- decide (((((refT p).length : Nat) : Int) : Int) ≤ i) true
      have p5 := of_decide_eq_true b5
      refine wpS_seq ?_
      refine wpS_region ?_
      refine s_y (v := .slice none 0 0) (y_assign rfl) rfl ?_
      refine wpL_nil ?_
      refine thenS_n ?_
      refine wpS_ret ?_
      refine thenS_r ?_
      refine finNil (.inr rfl) .nil Try.results127 rfl (sz := 3) (ty := 144) ?_
      exact fun w' hs => ⟨(none, 0), by rw [show (writesP p i) = [] from (writesP_no (ref_no hsm (by omega)))]; rfl, by rw [show (writesP p i) = [] from (writesP_no (ref_no hsm (by omega)))]; exact hs, trivial⟩
    · -- decide (((((refT p).length : Nat) : Int) : Int) ≤ i) false
      have p5 := of_decide_eq_false b5
      obtain ⟨hsome, hel⟩ := ref_at hsm (i := i) (by omega) (by omega)
      have hbd := tk_bd hsome
      rw [← hel] at hbd
      have hn1 := tk_n1 hsome
      refine wpS_skip ?_
      refine thenS_n ?_
      refine wpS_seq ?_
      refine wpS_anyL [osl a_2 c_3 ((refT p).length) 5 120 ((refT p).flatMap taskV), cel b_1 53 [.int .i64 (p.n0), .int .i64 (p.n1), .int .i64 (p.n2), .int .i64 (p.n3)]] [] (by kernel_rfl) ?_
      refine anyS_take (i := 0) rfl (by kernel_rfl) (by kernel_rfl) (by kernel_rfl) (by kernel_rfl) (Yq.of (v := .agg #[.int .i64 (p.n0), .int .i64 (p.n1), .int .i64 (p.n2), .int .i64 (p.n3)]) (y_loadN (vs := [.int .i64 (p.n0), .int .i64 (p.n1), .int .i64 (p.n2), .int .i64 (p.n3)]) rfl Try.isAgg53 Try.sizeOf53 (ownN (.t .h) rfl)) rfl) (.p .h (.p .h .nil)) ?_
      refine anyS_take (i := 1) rfl (by kernel_rfl) (by kernel_rfl) (by kernel_rfl) (by kernel_rfl) (Yq.of (v := .slice a_2 ((refT p).length) c_3) (y_move rfl) rfl) (.p .h (.p .h .nil)) ?_
      refine anyS_take (i := 2) rfl (by kernel_rfl) (by kernel_rfl) (by kernel_rfl) (by kernel_rfl) (Yq.of (v := .int .i64 i) (y_move rfl) rfl) (.p .h (.p .h .nil)) ?_
      refine anyS_take (i := 3) rfl (by kernel_rfl) (by kernel_rfl) (by kernel_rfl) (by kernel_rfl) (Yq.of (v := .pointer (some ⟨aB a_2, aO a_2 + ((i).toNat) * 5, none⟩)) (y_idx (o := ((i).toNat) * 5) rfl rfl Try.underlying115 Try.sizeOf120 (oslR .h) (fl_len taskV_len _) (by decide) (by omega) (by omega) (by omega)) rfl) (.p .h (.p .h .nil)) ?_
      refine anyS_take (i := 4) rfl (by kernel_rfl) (by kernel_rfl) (by kernel_rfl) (by kernel_rfl) (Yq.of (v := .agg #[.int .i64 (((refT p).getD ((i).toNat) default).t0), .int .i64 (((refT p).getD ((i).toNat) default).t1), .int .i64 (((refT p).getD ((i).toNat) default).t2), .int .i64 (((refT p).getD ((i).toNat) default).t3), .bool (((refT p).getD ((i).toNat) default).t4)]) (y_loadN (vs := taskV ((refT p).getD ((i).toNat) default)) rfl Try.isAgg120 Try.sizeOf120 (rdN (oslR .h) (fl_getN taskV_len (refT p) ((i).toNat) (by first | omega | (simp only [List.length_set, List.length_take, List.length_drop]; done) | (simp only [List.length_set, List.length_take, List.length_drop]; omega))))) rfl) (.p .h (.p .h .nil)) ?_
      refine anyS_all (rs := [5]) (by kernel_rfl) (by simp) ?_
      intro i hi; obtain rfl := List.mem_singleton.1 hi; clear hi
      refine opS_0 rfl rfl ?_
      refine e_call (f := 204) (args := #[.agg #[.int .i64 (p.n0), .int .i64 (p.n1), .int .i64 (p.n2), .int .i64 (p.n3)], .agg #[.int .i64 (((refT p).getD ((i).toNat) default).t0), .int .i64 (((refT p).getD ((i).toNat) default).t1), .int .i64 (((refT p).getD ((i).toNat) default).t2), .int .i64 (((refT p).getD ((i).toNat) default).t3), .bool (((refT p).getD ((i).toNat) default).t4)]]) (X := Option Addr × Nat) (A := []) (M := [osl a_2 c_3 ((refT p).length) 5 120 ((refT p).flatMap taskV), cel b_1 53 [.int .i64 (p.n0), .int .i64 (p.n1), .int .i64 (p.n2), .int .i64 (p.n3)]]) (V := slV (writesT p.n1 ((refT p).getD ((i).toNat) default))) (A' := fun x => [slR spotV 3 144 (writesT p.n1 ((refT p).getD ((i).toNat) default)) x]) (C := fun _ => True) Try.call204 (ev2 rfl rfl) (.p .h (.p .h .nil)) (fun w hs => rwr_c p ((refT p).getD ((i).toNat) default) (by omega) (by omega) (by omega) (by omega) w) ?_
      rintro ⟨a_6, c_7⟩ -
      refine ⟨.inr (.p (.t .h) (.p (.t .h) .nil)), ?_⟩
      refine anyS_take (i := 6) rfl (by kernel_rfl) (by kernel_rfl) (by kernel_rfl) (by kernel_rfl) (Yq.of (v := .slice a_6 ((writesT p.n1 ((refT p).getD ((i).toNat) default)).length) c_7) (y_assign rfl) rfl) (.p (.t .h) (.p (.t .h) .nil)) ?_
      refine anyS_done (by kernel_rfl) ?_
      refine thenS_n ?_
      refine wpS_ret ?_
      refine fin1 (M := [osl a_6 c_7 ((writesT p.n1 ((refT p).getD ((i).toNat) default)).length) 3 144 ((writesT p.n1 ((refT p).getD ((i).toNat) default)).flatMap spotV)]) (v := .slice a_6 ((writesT p.n1 ((refT p).getD ((i).toNat) default)).length) c_7) (.inr rfl) (.p .h .nil) Try.results127 rfl ?_
      exact fun w' hs => ⟨(a_6, c_7), by rw [show (writesP p i) = (writesT p.n1 ((refT p).getD ((i).toNat) default)) from (by rw [writesP_yes hsome, ← hel])], by rw [show (writesP p i) = (writesT p.n1 ((refT p).getD ((i).toNat) default)) from (by rw [writesP_yes hsome, ← hel])]; exact hs, trivial⟩

end Go.Proofs.Ytldkjjnjdjfipaa
