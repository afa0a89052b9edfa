/- chain.Step; ChainOne; walked. -/
import Derived.Test.YtldkjjnjdjfipaaP15
import Derived.Test.YtldkjjnjdjfipaaWVm2
import Derived.Test.YtldkjjnjdjfipaaWRec
import Derived.Test.YtldkjjnjdjfipaaWHlpR
import Derived.Test.YtldkjjnjdjfipaaP11c
namespace Go.Proofs.Ytldkjjnjdjfipaa
open Go Go.RowKit
set_option linter.unusedVariables false
set_option linter.unusedSimpArgs false
set_option maxRecDepth 10000
set_option maxHeartbeats 1000000

theorem valsR_c (a : Option Addr) (n c : Nat) (w : World) : Makes Try.prog 177 #[.slice a n c] w [] (X := Nat) (fun x : Nat => .func (.func 230) #[] #[.pointer (some ⟨x, 0, none⟩)]) (fun x : Nat => [cel x 69 [.slice a n c]]) (fun _ => True) := by
  refine calls_S (n := 4) (σ0 := (upd fr0 0 (.slice a n c))) (D := []) (A := []) Try.func177 rfl Try.ntmps177 rfl (a1_fr _) (SH.start w) ?_
  refine wpS_seq ?_
  refine wpS_region ?_
  refine s_e rfl ?_
  refine e_box (v := .slice a n c) (l := [.slice a n c]) rfl rfl ?_
  intro b_1
  refine s_y (v := .nilFunc) (y_assign rfl) rfl ?_
  refine wpL_nil ?_
  refine thenS_n ?_
  refine wpS_seq ?_
  refine wpS_region ?_
  refine s_y (v := .func (.func 230) #[] #[.pointer (some ⟨b_1, 0, none⟩)]) (y_makeFunc (a := #[]) (b := #[.pointer (some ⟨b_1, 0, none⟩)]) ev0 (ev1 rfl)) rfl ?_
  refine s_y (v := .func (.func 230) #[] #[.pointer (some ⟨b_1, 0, none⟩)]) (y_assign rfl) rfl ?_
  refine wpL_nil ?_
  refine thenS_n ?_
  refine wpS_ret ?_
  refine fin1 (M := [cel b_1 69 [.slice a n c]]) (v := .func (.func 230) #[] #[.pointer (some ⟨b_1, 0, none⟩)]) (.inr rfl) (.p .h .nil) Try.results177 rfl ?_
  exact fun w' hs => ⟨b_1, rfl, hs, trivial⟩

theorem valsR_it (b : Nat) (a : Option Addr) (n c : Nat) (vs : List Rec) (w : World) (hb : w.cell? ⟨b, 0, none⟩ = some (.slice a n c)) (hn : vs.length = n) (hr : Rds w a (vs.flatMap recV)) (hbn : n ≤ 1000000) : Iter Try.prog 230 #[.pointer (some ⟨b, 0, none⟩)] (fun k => #[.agg #[.bool (((vs.getD k default)).dead), .int .i64 ((((vs.getD k default)).key).toInt), .int .i64 ((((vs.getD k default)).value).toInt), .int .i64 ((((vs.getD k default)).seq).toInt)]]) (n) (fun z => z = b ∨ 0 < vs.length ∧ z = aB a) w := by
  intro yv I E A hrd hI hA hY
  show Calls Try.prog 230 #[yv, .pointer (some ⟨b, 0, none⟩)] w _
  refine calls_S (n := 16) (σ0 := (upd (upd fr0 0 (yv)) 1 (.pointer (some ⟨b, 0, none⟩)))) (D := (A.flatMap Res.fp)) (A := A) Try.func230 rfl Try.ntmps230 rfl (a2_fr _ _) hA ?_
  refine wpS_seq ?_
  refine wpS_region ?_
  refine s_y (v := .slice a n c) (y_load1 (v := .slice a n c) rfl Try.isAgg69 (old1 hb (hrd _ (.inl rfl)))) rfl ?_
  refine s_y (v := .int .i64 (((n : Nat) : Int))) (y_len (ty' := 0) (at_ := #[]) rfl Try.underlying69) rfl ?_
  refine s_y (v := .int .i64 0) (y_move rfl) rfl ?_
  refine wpL_nil ?_
  refine thenS_n ?_
  refine wpS_block ?_
  refine wpS_loop (fun mez ds σ L => ∃ i : Nat, ∃ A1 : List Res, mez = n - i ∧ (i ≤ n) ∧ (I i A1) ∧ ds = [] ∧ σ 0 = yv ∧ σ 5 = .slice a n c ∧ σ 6 = .int .i64 (((n : Nat) : Int)) ∧ σ 7 = .int .i64 (((i : Nat) : Int)) ∧ Ent L (A1)) (m0 := n - 0) ⟨0, A, rfl, by omega, hI, rfl, rfl, rfl, rfl, rfl, (Ent.refl _)⟩ ?_
  rintro mez ds σ L ⟨i, A1, hm_1, hf0_1, hf1_1, rfl, h0_1, h5_1, h6_1, h7_1, hE_1⟩
  refine wpS_ent hE_1 ?_; clear hE_1
  refine wpS_seq ?_
  refine wpS_region ?_
  refine s_y (v := .bool (decide (i < n))) (y_lss (a := ((i : Nat) : Int)) (b := ((n : Nat) : Int)) (c := decide (i < n)) h7_1 h6_1 (decide_eq_decide.2 (by omega))) rfl ?_
  refine wpL_nil ?_
  refine thenS_n ?_
  refine wpS_seq ?_
  refine wpS_cond (t := decide (i < n)) rfl (fun b2 => ?_) (fun b2 => ?_)
  · -- decide (i < n) true
    have p2 := of_decide_eq_true b2
    refine wpS_skip ?_
    refine thenS_n ?_
    refine wpS_seq ?_
    refine wpS_block ?_
    refine wpS_seq ?_
    refine wpS_region ?_
    refine s_y (v := .pointer (some ⟨aB a, aO a + i * 4, none⟩)) (y_idx (o := i * 4) h5_1 h7_1 Try.underlying69 Try.sizeOf23 (oldRD' hr (fun hl => hrd _ (.inr ⟨fl_pos' recV_len hl, rfl⟩))) ((fl_len recV_len _).trans (by first | omega | (simp only [List.length_set, List.length_take, List.length_drop]; done) | (simp only [List.length_set, List.length_take, List.length_drop]; omega))) (by decide) (by omega) (by omega) (by omega)) rfl ?_
    refine s_y (v := .agg #[.bool ((vs.getD i default).dead), .int .i64 (((vs.getD i default).key).toInt), .int .i64 (((vs.getD i default).value).toInt), .int .i64 (((vs.getD i default).seq).toInt)]) (y_loadN (vs := recV (vs.getD i default)) rfl Try.isAgg23 Try.sizeOf23 (rdN (oldRD' hr (fun hl => hrd _ (.inr ⟨fl_pos' recV_len hl, rfl⟩))) (fl_getN recV_len vs i (by first | omega | (simp only [List.length_set, List.length_take, List.length_drop]; done) | (simp only [List.length_set, List.length_take, List.length_drop]; omega))))) rfl ?_
    refine s_e rfl ?_
    refine e_alloc (l := [.bool false, .int .i64 0, .int .i64 0, .int .i64 0]) Try.zeroValue23 rfl ?_
    intro b_3
    refine s_e0 ?_
    refine e_store (vs := [.bool ((vs.getD i default).dead), .int .i64 (((vs.getD i default).key).toInt), .int .i64 (((vs.getD i default).value).toInt), .int .i64 (((vs.getD i default).seq).toInt)]) (l' := [.bool ((vs.getD i default).dead), .int .i64 (((vs.getD i default).key).toInt), .int .i64 (((vs.getD i default).value).toInt), .int .i64 (((vs.getD i default).seq).toInt)]) rfl rfl rfl rfl Try.sizeOf23 .h (Nat.le_of_ble_eq_true rfl) rfl ?_
    refine wpL_nil ?_
    refine thenS_n ?_
    refine wpS_seq ?_
    refine wpS_region ?_
    refine s_y (v := yv) (y_move h0_1) rfl ?_
    refine s_y (v := .agg #[.bool ((vs.getD i default).dead), .int .i64 (((vs.getD i default).key).toInt), .int .i64 (((vs.getD i default).value).toInt), .int .i64 (((vs.getD i default).seq).toInt)]) (y_loadN (vs := [.bool ((vs.getD i default).dead), .int .i64 (((vs.getD i default).key).toInt), .int .i64 (((vs.getD i default).value).toInt), .int .i64 (((vs.getD i default).seq).toInt)]) rfl Try.isAgg23 Try.sizeOf23 (ownN .h rfl)) rfl ?_
    refine s_e rfl ?_
    refine e_yield (own := [cel b_3 23 [.bool ((vs.getD i default).dead), .int .i64 (((vs.getD i default).key).toInt), .int .i64 (((vs.getD i default).value).toInt), .int .i64 (((vs.getD i default).seq).toInt)]]) (A := A1) (enc := (fun k => #[.agg #[.bool (((vs.getD k default)).dead), .int .i64 ((((vs.getD k default)).key).toInt), .int .i64 ((((vs.getD k default)).value).toInt), .int .i64 ((((vs.getD k default)).seq).toInt)]])) (k := i) hY rfl (ev1 rfl) (by omega) (by assumption) ?_ ?_
    · intro A_4 hI_5
      refine s_y (v := .bool false) (y_notK (b := true) (c := false) rfl rfl) rfl ?_
      refine wpL_nil ?_
      refine thenS_n ?_
      refine wpS_cond_f rfl ?_
      refine wpS_skip ?_
      refine blockS_n ?_
      refine thenS_n ?_
      refine wpS_region ?_
      refine s_y (v := .int .i64 ((((i + 1) : Nat) : Int))) (y_add (a := ((i : Nat) : Int)) (b := 1) (c := (((i + 1) : Nat) : Int)) h7_1 rfl (wI (by omega) (by omega) (by omega))) rfl ?_
      refine s_y (v := .int .i64 ((((i + 1) : Nat) : Int))) (y_move rfl) rfl ?_
      refine wpL_nil ?_
      refine thenS_n ?_
      exact ⟨_, by omega, ⟨(i + 1), A_4, rfl, by omega, hI_5, rfl, h0_1, h5_1, h6_1, rfl, (Ent.skip _ (Ent.refl _))⟩⟩
    · intro A_6 hI_7
      refine s_y (v := .bool true) (y_notK (b := false) (c := true) rfl rfl) rfl ?_
      refine wpL_nil ?_
      refine thenS_n ?_
      refine wpS_cond_t rfl ?_
      refine wpS_ret ?_
      refine blockS_r ?_
      refine thenS_r ?_
      refine thenS_r ?_
      refine blockS_r ?_
      exact fin0 (.inr rfl) ((Ent.skip _ (Ent.refl _))) Try.results230 (fun w' hs => ⟨rfl, A_6, hs, .inr ⟨i, by omega, hI_7⟩⟩)
  · -- decide (i < n) false
    have p2 := of_decide_eq_false b2
    refine wpS_exit ?_
    refine thenS_x ?_
    refine thenS_x ?_
    refine blockS_h ?_
    exact fin0 (.inl rfl) ((Ent.refl _)) Try.results230 (fun w' hs => ⟨rfl, A1, hs, .inl (by rw [show n = i by omega]; assumption)⟩)

theorem valsR_at (b : Nat) (a : Option Addr) (n c : Nat) (vs : List Rec) (w : World) (hb : w.cell? ⟨b, 0, none⟩ = some (.slice a n c)) (hn : vs.length = n) (hr : Rds w a (vs.flatMap recV)) (hbn : n ≤ 1000000) :
    IterAt Try.prog 230 #[.pointer (some ⟨b, 0, none⟩)] (fun k => #[.agg #[.bool (((vs.getD k default)).dead), .int .i64 ((((vs.getD k default)).key).toInt), .int .i64 ((((vs.getD k default)).value).toInt), .int .i64 ((((vs.getD k default)).seq).toInt)]]) n (fun z => z = b ∨ 0 < vs.length ∧ z = aB a) w :=
  ⟨fun w' hs => valsR_it b a n c vs w' (cell_old hb hs) hn (hr.below (SH.below hs)) hbn, by
    rintro z (rfl | ⟨hl, rfl⟩)
    · exact cell_lt hb
    · exact rdBlk hr (fl_pos recV_len (by decide) hl)⟩

theorem cstep_c (kz : Int) (a1 a2 a3 : Option Addr) (n1 c1 n2 c2 n3 c3 : Nat) (l1 l2 l3 : List Opc) (cr : Rec) (ga : Option Addr) (gn gc : Nat) (l : List Rec) (w : World) (hn1 : l1.length = n1) (hr1 : Rds w a1 (l1.flatMap opcV)) (hb1 : n1 ≤ 1000000) (hn2 : l2.length = n2) (hr2 : Rds w a2 (l2.flatMap opcV)) (hb2 : n2 ≤ 1000000) (hn3 : l3.length = n3) (hr3 : Rds w a3 (l3.flatMap opcV)) (hb3 : n3 ≤ 1000000) (hn : l.length = gn) (hr : Rds w ga (l.flatMap recV)) (hb : gn ≤ 1000000) : Makes Try.prog 91 #[.agg #[.int .i64 kz, .slice a1 n1 c1, .slice a2 n2 c2, .slice a3 n3 c3], .agg #[.bool (cr.dead), .int .i64 (cr.key.toInt), .int .i64 (cr.value.toInt), .int .i64 (cr.seq.toInt)], .slice ga gn gc] w [] (X := Option Addr × Nat) (fun x => .tuple #[slV (stepO (chkB kz l1 l2 l3) l2 l3 cr l) x, .agg #[.bool ((stepC (chkB kz l1 l2 l3) l2 l3 cr l).dead), .int .i64 (((stepC (chkB kz l1 l2 l3) l2 l3 cr l).key).toInt), .int .i64 (((stepC (chkB kz l1 l2 l3) l2 l3 cr l).value).toInt), .int .i64 (((stepC (chkB kz l1 l2 l3) l2 l3 cr l).seq).toInt)]]) (fun x => [slR recV 4 23 (stepO (chkB kz l1 l2 l3) l2 l3 cr l) x]) (fun _ => True) := by
  refine calls_S (n := 80) (σ0 := (upd (upd (upd fr0 0 (.agg #[.int .i64 kz, .slice a1 n1 c1, .slice a2 n2 c2, .slice a3 n3 c3])) 1 (.agg #[.bool (cr.dead), .int .i64 (cr.key.toInt), .int .i64 (cr.value.toInt), .int .i64 (cr.seq.toInt)])) 2 (.slice ga gn gc))) (D := []) (A := []) Try.func91 rfl Try.ntmps91 rfl (a3_fr _ _ _) (SH.start w) ?_
  refine wpS_seq ?_
  refine wpS_region ?_
  refine s_e rfl ?_
  refine e_box (v := .agg #[.int .i64 kz, .slice a1 n1 c1, .slice a2 n2 c2, .slice a3 n3 c3]) (l := [.int .i64 kz, .slice a1 n1 c1, .slice a2 n2 c2, .slice a3 n3 c3]) rfl rfl ?_
  intro b_1
  refine s_e rfl ?_
  refine e_box (v := .agg #[.bool (cr.dead), .int .i64 (cr.key.toInt), .int .i64 (cr.value.toInt), .int .i64 (cr.seq.toInt)]) (l := [.bool (cr.dead), .int .i64 (cr.key.toInt), .int .i64 (cr.value.toInt), .int .i64 (cr.seq.toInt)]) rfl rfl ?_
  intro b_2
  refine s_y (v := .slice none 0 0) (y_assign rfl) rfl ?_
  refine s_e rfl ?_
  refine e_alloc (l := [.bool false, .int .i64 0, .int .i64 0, .int .i64 0]) Try.zeroValue23 rfl ?_
  intro b_3
  refine wpL_nil ?_
  refine thenS_n ?_
  refine wpS_scope ?_
  refine wpS_seq ?_
  refine wpS_seq ?_
  refine wpS_region ?_
  refine s_y (v := .agg #[.int .i64 kz, .slice a1 n1 c1, .slice a2 n2 c2, .slice a3 n3 c3]) (y_loadN (vs := [.int .i64 kz, .slice a1 n1 c1, .slice a2 n2 c2, .slice a3 n3 c3]) rfl Try.isAgg84 Try.sizeOf84 (ownN (.t (.t .h)) rfl)) rfl ?_
  refine s_y (v := .int .i64 (chk11 kz l1 l2 l3)) (y_call (args := #[.agg #[.int .i64 kz, .slice a1 n1 c1, .slice a2 n2 c2, .slice a3 n3 c3]]) (v := .int .i64 (chk11 kz l1 l2 l3)) Try.call84 (ev1 rfl) (fun w hs => check_c kz a1 a2 a3 n1 c1 n2 c2 n3 c3 l1 l2 l3 w hn1 ((oldR hr1) w hs) (by omega) hn2 ((oldR hr2) w hs) (by omega) hn3 ((oldR hr3) w hs) (by omega))) rfl ?_
  refine s_y (v := .bool (decide ((chk11 kz l1 l2 l3 : Int) ≠ 0))) (y_neq (a := chk11 kz l1 l2 l3) (b := 0) rfl rfl rfl) rfl ?_
  refine wpL_nil ?_
  refine thenS_n ?_
  refine wpS_cond (t := decide ((chk11 kz l1 l2 l3 : Int) ≠ 0)) rfl (fun b4 => ?_) (fun b4 => ?_)
  · -- decide ((chk11 kz l1 l2 l3 : Int) ≠ 0) true
    have p4 := of_decide_eq_true b4
    have hno : chkB kz l1 l2 l3 = false := chk_no p4
    refine wpS_seq ?_
    refine wpS_region ?_
    refine s_y (v := .agg #[.bool (deadR.dead), .int .i64 (deadR.key.toInt), .int .i64 (deadR.value.toInt), .int .i64 (deadR.seq.toInt)]) (y_call (args := #[]) (v := .agg #[.bool (deadR.dead), .int .i64 (deadR.key.toInt), .int .i64 (deadR.value.toInt), .int .i64 (deadR.seq.toInt)]) Try.call49 ev0 (fun w hs => dead_c w)) rfl ?_
    refine s_y (v := .slice none 0 0) (y_assign rfl) rfl ?_
    refine s_e0 ?_
    refine e_store (vs := [.bool (deadR.dead), .int .i64 (deadR.key.toInt), .int .i64 (deadR.value.toInt), .int .i64 (deadR.seq.toInt)]) (l' := [.bool (deadR.dead), .int .i64 (deadR.key.toInt), .int .i64 (deadR.value.toInt), .int .i64 (deadR.seq.toInt)]) rfl rfl rfl rfl Try.sizeOf23 .h (Nat.le_of_ble_eq_true rfl) rfl ?_
    refine wpL_nil ?_
    refine thenS_n ?_
    refine wpS_ret ?_
    refine thenS_r ?_
    refine scopeS_r ?_
    refine fin2 (M := [cel b_3 23 [.bool (deadR.dead), .int .i64 (deadR.key.toInt), .int .i64 (deadR.value.toInt), .int .i64 (deadR.seq.toInt)]]) (.inr rfl) (.p .h .nil) Try.results91 (rvT (v := .slice none 0 0) rfl) (rvC (vs := [.bool (deadR.dead), .int .i64 (deadR.key.toInt), .int .i64 (deadR.value.toInt), .int .i64 (deadR.seq.toInt)]) rfl Try.isAgg23 Try.sizeOf23 (fun w hs => ownN .h rfl w hs)) ?_
    have e1 : stepO (chkB kz l1 l2 l3) l2 l3 cr l = [] := by unfold stepO; rw [if_neg (by rw [hno]; decide)]
    have e2 : stepC (chkB kz l1 l2 l3) l2 l3 cr l = deadR := by unfold stepC; rw [if_neg (by rw [hno]; decide)]
    exact fun w' hs => ⟨(none, 0), by rw [e1, e2]; rfl, by rw [e1]; exact (SH.nil0 w' hs).ent (.p .h .nil), trivial⟩
  · -- decide ((chk11 kz l1 l2 l3 : Int) ≠ 0) false
    have p4 := of_decide_eq_false b4
    have hok : chkB kz l1 l2 l3 = true := chk_yes (Decidable.not_not.1 p4)
    refine wpS_skip ?_
    refine thenS_n ?_
    refine wpS_seq ?_
    refine wpS_region ?_
    refine s_e rfl ?_
    refine e_alloc (l := [.slice none 0 0]) Try.zeroValue69 rfl ?_
    intro b_5
    refine wpL_nil ?_
    refine thenS_n ?_
    refine wpS_seq ?_
    refine wpS_label ?_
    refine thenS_n ?_
    refine wpS_seq ?_
    refine wpS_seq ?_
    refine wpS_region ?_
    refine s_y (v := .slice ga gn gc) (y_move rfl) rfl ?_
    refine s_e rfl ?_
    refine e_call (f := 177) (args := #[.slice ga gn gc]) (X := Nat) (A := []) (M := [cel b_5 69 [.slice none 0 0], cel b_3 23 [.bool false, .int .i64 0, .int .i64 0, .int .i64 0], cel b_2 23 [.bool (cr.dead), .int .i64 (cr.key.toInt), .int .i64 (cr.value.toInt), .int .i64 (cr.seq.toInt)], cel b_1 84 [.int .i64 kz, .slice a1 n1 c1, .slice a2 n2 c2, .slice a3 n3 c3]]) (V := fun x : Nat => .func (.func 230) #[] #[.pointer (some ⟨x, 0, none⟩)]) (A' := fun x : Nat => [cel x 69 [.slice ga gn gc]]) (C := fun _ => True) Try.call177 (ev1 rfl) (.p .h (.p .h (.p .h (.p .h .nil)))) (fun w hs => valsR_c ga gn gc w) ?_
    rintro b_6 -
    refine wpL_nil ?_
    refine thenS_n ?_
    refine wpS_block ?_
    refine wpS_nil0 4 23 ?_
    refine wpS_rangeFunc (f := 230) (cap := #[.pointer (some ⟨b_6, 0, none⟩)]) (enc := fun k => #[.agg #[.bool (((l.getD k default)).dead), .int .i64 ((((l.getD k default)).key).toInt), .int .i64 ((((l.getD k default)).value).toInt), .int .i64 ((((l.getD k default)).seq).toInt)]]) (N := gn) (rd := fun z => z = b_6 ∨ 0 < l.length ∧ z = aB ga) (A := [osl none 0 0 4 23 (([] : List Rec).flatMap recV), cel b_5 69 [.slice none 0 0], cel b_3 23 [.bool false, .int .i64 0, .int .i64 0, .int .i64 0], cel b_2 23 [.bool (cr.dead), .int .i64 (cr.key.toInt), .int .i64 (cr.value.toInt), .int .i64 (cr.seq.toInt)], cel b_1 84 [.int .i64 kz, .slice a1 n1 c1, .slice a2 n2 c2, .slice a3 n3 c3]]) (M := [cel b_6 69 [.slice ga gn gc]]) (fun k A => ∃ os : List Rec, ∃ cq : Rec, ∃ b1 : Option Addr, ∃ d1 : Nat, ((os, cq) = run15 (chkB kz l1 l2 l3) l2 l3 ([], cr) (l.take k)) ∧ (os.length = k) ∧ A = [osl b1 d1 os.length 4 23 (os.flatMap recV), cel b_5 69 [.slice b1 os.length d1], cel b_3 23 [.bool false, .int .i64 0, .int .i64 0, .int .i64 0], cel b_2 23 [.bool (cq.dead), .int .i64 (cq.key.toInt), .int .i64 (cq.value.toInt), .int .i64 (cq.seq.toInt)], cel b_1 84 [.int .i64 kz, .slice a1 n1 c1, .slice a2 n2 c2, .slice a3 n3 c3]]) (fun k e A => False) rfl Try.call230 (by kernel_rfl) (fun _ => rfl) (.p .h (.p (.t .h) (.p (.t .h) (.p (.t .h) (.p (.t .h) (.p .h .nil)))))) ⟨[], cr, none, 0, rfl, rfl, rfl⟩ (fun w hs => (valsR_at b_6 ga gn gc l w (own1 (.t (.t (.t (.t (.t .h))))) rfl w hs) hn ((oldR hr) w hs) (by omega)).it) (fun w hs b hb => by rcases hb with rfl | ⟨hl, rfl⟩; exact apM (A := [osl none 0 0 4 23 (([] : List Rec).flatMap recV), cel b_5 69 [.slice none 0 0], cel b_3 23 [.bool false, .int .i64 0, .int .i64 0, .int .i64 0], cel b_2 23 [.bool (cr.dead), .int .i64 (cr.key.toInt), .int .i64 (cr.value.toInt), .int .i64 (cr.seq.toInt)], cel b_1 84 [.int .i64 kz, .slice a1 n1 c1, .slice a2 n2 c2, .slice a3 n3 c3]]) hs .h (by simp [cel, blk]); exact apOld hs (rdBlk hr (fl_pos recV_len (by decide) hl)) (by simp)) ?_ ?_ ?_
    · -- a round
      rintro k A' hk_7 ⟨os, cq, b1, d1, hf0_7, hf1_7, rfl⟩ w_7 l_7 hs_7
      refine wpS_region ?_
      refine s_e rfl ?_
      refine e_alloc (l := [.bool false, .int .i64 0, .int .i64 0, .int .i64 0]) Try.zeroValue23 rfl ?_
      intro b_8
      refine s_e0 ?_
      refine e_store (vs := [.bool (((l.getD k default)).dead), .int .i64 ((((l.getD k default)).key).toInt), .int .i64 ((((l.getD k default)).value).toInt), .int .i64 ((((l.getD k default)).seq).toInt)]) (l' := [.bool (((l.getD k default)).dead), .int .i64 ((((l.getD k default)).key).toInt), .int .i64 ((((l.getD k default)).value).toInt), .int .i64 ((((l.getD k default)).seq).toInt)]) rfl rfl rfl rfl Try.sizeOf23 .h (Nat.le_of_ble_eq_true rfl) rfl ?_
      refine wpL_nil ?_
      refine asg_n fun w2_7 hs2_7 => ?_
      have hrd9 := rdIn (A' := [cel b_8 23 [.bool (((l.getD k default)).dead), .int .i64 ((((l.getD k default)).key).toInt), .int .i64 ((((l.getD k default)).value).toInt), .int .i64 ((((l.getD k default)).seq).toInt)], osl b1 d1 os.length 4 23 (os.flatMap recV), cel b_5 69 [.slice b1 os.length d1], cel b_3 23 [.bool false, .int .i64 0, .int .i64 0, .int .i64 0], cel b_2 23 [.bool (cq.dead), .int .i64 (cq.key.toInt), .int .i64 (cq.value.toInt), .int .i64 (cq.seq.toInt)], cel b_1 84 [.int .i64 kz, .slice a1 n1 c1, .slice a2 n2 c2, .slice a3 n3 c3]]) hs2_7 (oldR hr w2_7 hs2_7) (fun hl => ⟨rdBlk hr hl, by simp⟩)
      have hrd10 := rdIn (A' := [cel b_8 23 [.bool (((l.getD k default)).dead), .int .i64 ((((l.getD k default)).key).toInt), .int .i64 ((((l.getD k default)).value).toInt), .int .i64 ((((l.getD k default)).seq).toInt)], osl b1 d1 os.length 4 23 (os.flatMap recV), cel b_5 69 [.slice b1 os.length d1], cel b_3 23 [.bool false, .int .i64 0, .int .i64 0, .int .i64 0], cel b_2 23 [.bool (cq.dead), .int .i64 (cq.key.toInt), .int .i64 (cq.value.toInt), .int .i64 (cq.seq.toInt)], cel b_1 84 [.int .i64 kz, .slice a1 n1 c1, .slice a2 n2 c2, .slice a3 n3 c3]]) hs2_7 (oldR hr1 w2_7 hs2_7) (fun hl => ⟨rdBlk hr1 hl, by simp⟩)
      have hrd11 := rdIn (A' := [cel b_8 23 [.bool (((l.getD k default)).dead), .int .i64 ((((l.getD k default)).key).toInt), .int .i64 ((((l.getD k default)).value).toInt), .int .i64 ((((l.getD k default)).seq).toInt)], osl b1 d1 os.length 4 23 (os.flatMap recV), cel b_5 69 [.slice b1 os.length d1], cel b_3 23 [.bool false, .int .i64 0, .int .i64 0, .int .i64 0], cel b_2 23 [.bool (cq.dead), .int .i64 (cq.key.toInt), .int .i64 (cq.value.toInt), .int .i64 (cq.seq.toInt)], cel b_1 84 [.int .i64 kz, .slice a1 n1 c1, .slice a2 n2 c2, .slice a3 n3 c3]]) hs2_7 (oldR hr2 w2_7 hs2_7) (fun hl => ⟨rdBlk hr2 hl, by simp⟩)
      have hrd12 := rdIn (A' := [cel b_8 23 [.bool (((l.getD k default)).dead), .int .i64 ((((l.getD k default)).key).toInt), .int .i64 ((((l.getD k default)).value).toInt), .int .i64 ((((l.getD k default)).seq).toInt)], osl b1 d1 os.length 4 23 (os.flatMap recV), cel b_5 69 [.slice b1 os.length d1], cel b_3 23 [.bool false, .int .i64 0, .int .i64 0, .int .i64 0], cel b_2 23 [.bool (cq.dead), .int .i64 (cq.key.toInt), .int .i64 (cq.value.toInt), .int .i64 (cq.seq.toInt)], cel b_1 84 [.int .i64 kz, .slice a1 n1 c1, .slice a2 n2 c2, .slice a3 n3 c3]]) hs2_7 (oldR hr3 w2_7 hs2_7) (fun hl => ⟨rdBlk hr3 hl, by simp⟩)
      refine wpS_block ?_
      refine wpS_seq ?_
      refine wpS_seq ?_
      refine wpS_region ?_
      refine s_y (v := .pointer (some ⟨b_8, 0, none⟩)) (y_fieldAddr (o' := 0) rfl Try.underlying23 rfl Try.sizeOf4 (by decide) rfl) rfl ?_
      refine s_y (v := .bool (((l.getD k default)).dead)) (y_load1 rfl Try.isAgg4 (own1 .h rfl)) rfl ?_
      refine s_y (v := .bool (!(((l.getD k default)).dead))) (y_not (b := ((l.getD k default)).dead) rfl) rfl ?_
      refine s_y (v := .bool (!(((l.getD k default)).dead))) (y_move rfl) rfl ?_
      rcases Bool.eq_false_or_eq_true (!(((l.getD k default)).dead)) with b13 | b13
      · -- !(((l.getD k default)).dead) True
        have b14 : (((l.getD k default)).dead) = false := by simpa using b13
        refine s_gy (y_fieldAddr (o' := 0) rfl Try.underlying23 rfl Try.sizeOf4 (by decide) rfl) rfl rfl rfl rfl (b' := !(((l.getD k default)).dead)) rfl b13 ?_
        refine s_gy (y_load1 rfl Try.isAgg4 (own1 (.t (.t (.t (.t .h)))) rfl)) rfl rfl rfl rfl (b' := !(((l.getD k default)).dead)) rfl b13 ?_
        refine s_gy (y_not (b := cq.dead) rfl) rfl rfl rfl rfl (b' := !(((l.getD k default)).dead)) rfl b13 ?_
        refine s_y (v := .bool (!cq.dead)) (y_pickT (b := !(((l.getD k default)).dead)) (v := .bool (!cq.dead)) rfl b13 rfl) rfl ?_
        refine s_y (v := .bool (!cq.dead)) (y_move rfl) rfl ?_
        rcases Bool.eq_false_or_eq_true (!cq.dead) with b15 | b15
        · -- !cq.dead True
          have b16 : cq.dead = false := by simpa using b15
          refine s_gy (y_fieldAddr (o' := 1) rfl Try.underlying23 rfl Try.sizeOf2 (by decide) rfl) rfl rfl rfl rfl (b' := !cq.dead) rfl b15 ?_
          refine s_gy (y_load1 rfl Try.isAgg2 (own1 .h rfl)) rfl rfl rfl rfl (b' := !cq.dead) rfl b15 ?_
          refine s_gy (y_fieldAddr (o' := 1) rfl Try.underlying23 rfl Try.sizeOf2 (by decide) rfl) rfl rfl rfl rfl (b' := !cq.dead) rfl b15 ?_
          refine s_gy (y_load1 rfl Try.isAgg2 (own1 (.t (.t (.t (.t .h)))) rfl)) rfl rfl rfl rfl (b' := !cq.dead) rfl b15 ?_
          refine s_gy (y_eql (a := (((l.getD k default)).key).toInt) (b := cq.key.toInt) (c := decide ((((l.getD k default)).key) = cq.key)) rfl rfl (i_eql _ _)) rfl rfl rfl rfl (b' := !cq.dead) rfl b15 ?_
          refine s_y (v := .bool (decide ((((l.getD k default)).key) = cq.key))) (y_pickT (b := !cq.dead) (v := .bool (decide ((((l.getD k default)).key) = cq.key))) rfl b15 rfl) rfl ?_
          refine wpL_nil ?_
          refine thenS_n ?_
          refine wpS_cond (t := decide ((((l.getD k default)).key) = cq.key)) rfl (fun b17 => ?_) (fun b17 => ?_)
          · -- decide ((((l.getD k default)).key) = cq.key) true
            have p17 := of_decide_eq_true b17
            refine wpS_seq ?_
            refine wpS_region ?_
            refine s_y (v := .agg #[.int .i64 kz, .slice a1 n1 c1, .slice a2 n2 c2, .slice a3 n3 c3]) (y_loadN (vs := [.int .i64 kz, .slice a1 n1 c1, .slice a2 n2 c2, .slice a3 n3 c3]) rfl Try.isAgg84 Try.sizeOf84 (ownN (.t (.t (.t (.t (.t .h))))) rfl)) rfl ?_
            refine s_y (v := .pointer (some ⟨b_2, 2, none⟩)) (y_fieldAddr (o' := 2) rfl Try.underlying23 rfl Try.sizeOf2 (by decide) rfl) rfl ?_
            refine s_y (v := .int .i64 (cq.value.toInt)) (y_load1 rfl Try.isAgg2 (own1 (.t (.t (.t (.t .h)))) rfl)) rfl ?_
            refine s_y (v := .pointer (some ⟨b_8, 2, none⟩)) (y_fieldAddr (o' := 2) rfl Try.underlying23 rfl Try.sizeOf2 (by decide) rfl) rfl ?_
            refine s_y (v := .int .i64 ((((l.getD k default)).value).toInt)) (y_load1 rfl Try.isAgg2 (own1 .h rfl)) rfl ?_
            refine s_y (v := .int .i64 (((doneC (chkB kz l1 l2 l3) l2 cq.value (((l.getD k default)).value))).toInt)) (y_call (args := #[.agg #[.int .i64 kz, .slice a1 n1 c1, .slice a2 n2 c2, .slice a3 n3 c3], .int .i64 (cq.value.toInt), .int .i64 ((((l.getD k default)).value).toInt)]) (v := .int .i64 (((doneC (chkB kz l1 l2 l3) l2 cq.value (((l.getD k default)).value))).toInt)) Try.call85 (ev3 rfl rfl rfl) (fun w hs => fold_c kz a1 a2 a3 n1 c1 n2 c2 n3 c3 l1 l2 l3 cq.value (((l.getD k default)).value) w hn1 ((hrd10 _) w hs) (by omega) hn2 ((hrd11 _) w hs) (by omega) hn3 ((hrd12 _) w hs) (by omega))) rfl ?_
            refine s_y (v := .pointer (some ⟨b_2, 2, none⟩)) (y_fieldAddr (o' := 2) rfl Try.underlying23 rfl Try.sizeOf2 (by decide) rfl) rfl ?_
            refine s_e0 ?_
            refine e_store (vs := [.int .i64 (((doneC (chkB kz l1 l2 l3) l2 cq.value (((l.getD k default)).value))).toInt)]) (l' := [.bool (cq.dead), .int .i64 (cq.key.toInt), .int .i64 (((doneC (chkB kz l1 l2 l3) l2 cq.value (((l.getD k default)).value))).toInt), .int .i64 (cq.seq.toInt)]) rfl rfl rfl rfl Try.sizeOf2 (.t (.t (.t (.t .h)))) (Nat.le_of_ble_eq_true rfl) rfl ?_
            refine wpL_nil ?_
            refine thenS_n ?_
            refine wpS_seq ?_
            refine wpS_anyL [cel b_5 69 [.slice b1 os.length d1]] [4] (by kernel_rfl) ?_
            refine anyS_take (i := 0) rfl (by kernel_rfl) (by kernel_rfl) (by kernel_rfl) (by kernel_rfl) (Yq.of (v := .slice b1 os.length d1) (y_load1 rfl Try.isAgg69 (own1 .h rfl)) rfl) (.p (.t (.t (.t .h))) .nil) ?_
            refine anyS_take (i := 1) rfl (by kernel_rfl) (by kernel_rfl) (by kernel_rfl) (by kernel_rfl) (Yq.of (v := .agg #[.bool (deadR.dead), .int .i64 (deadR.key.toInt), .int .i64 (deadR.value.toInt), .int .i64 (deadR.seq.toInt)]) (y_call (args := #[]) (v := .agg #[.bool (deadR.dead), .int .i64 (deadR.key.toInt), .int .i64 (deadR.value.toInt), .int .i64 (deadR.seq.toInt)]) Try.call49 ev0 (fun w hs => dead_c w)) rfl) (.p (.t (.t (.t .h))) .nil) ?_
            refine anyS_all (rs := [2]) (by kernel_rfl) (by simp) ?_
            intro i hi; obtain rfl := List.mem_singleton.1 hi; clear hi
            refine opS_0 rfl rfl ?_
            refine e_bsliceL (e := 23) (m := [(0, .agg #[.bool (deadR.dead), .int .i64 (deadR.key.toInt), .int .i64 (deadR.value.toInt), .int .i64 (deadR.seq.toInt)])]) (l := [.bool (deadR.dead), .int .i64 (deadR.key.toInt), .int .i64 (deadR.value.toInt), .int .i64 (deadR.seq.toInt)]) (evc rfl evn) (fun w => by kernel_rfl) ?_
            intro b_18
            refine ⟨.inr (.p (.t (.t (.t (.t .h)))) .nil), ?_⟩
            refine anyS_all (rs := [3]) (by kernel_rfl) (by simp) ?_
            intro i hi; obtain rfl := List.mem_singleton.1 hi; clear hi
            refine opS_0 rfl rfl ?_
            refine e_appendL (enc := recV) (xs := (os : List Rec)) (ns := ([deadR] : List Rec)) (zs := (os ++ [deadR])) (bytes := 32) recV_len recV_one Try.underlying69 (i := Try.t23) rfl rfl rfl rfl rfl (by decide) rfl rfl (by first | rfl | omega) (by first | rfl | omega) (.t (.t (.t .h))) (fun w hs => celR .h w hs) (by first | rfl | simp) (by (try simp only [List.length_append, List.length_cons, List.length_nil] at *); omega) (by (try simp only [List.length_append, List.length_cons, List.length_nil] at *); omega) ?_
            intro a_19 c_20
            refine ⟨.inr (.p (.t (.t (.t (.t .h)))) .nil), ?_⟩
            refine anyS_all (rs := [4]) (by kernel_rfl) (by simp) ?_
            intro i hi; obtain rfl := List.mem_singleton.1 hi; clear hi
            refine opS_0 rfl rfl ?_
            refine e_store (vs := [.slice a_19 ((os ++ [deadR]).length) c_20]) (l' := [.slice a_19 ((os ++ [deadR]).length) c_20]) rfl rfl rfl rfl Try.sizeOf69 (.t (.t (.t (.t .h)))) (Nat.le_of_ble_eq_true rfl) rfl ?_
            refine ⟨.inl (by simp), ?_⟩
            refine anyS_done (by kernel_rfl) ?_
            refine thenS_n ?_
            refine wpS_exit ?_
            refine thenS_x ?_
            refine blockS_h ?_
            exact rnd_n ⟨[osl a_19 c_20 ((os ++ [deadR]).length) 4 23 ((os ++ [deadR]).flatMap recV), cel b_5 69 [.slice a_19 (os ++ [deadR]).length c_20], cel b_3 23 [.bool false, .int .i64 0, .int .i64 0, .int .i64 0], cel b_2 23 [.bool ((Rec.mk cq.dead cq.key (doneC (chkB kz l1 l2 l3) l2 cq.value (((l.getD k default)).value)) cq.seq).dead), .int .i64 ((Rec.mk cq.dead cq.key (doneC (chkB kz l1 l2 l3) l2 cq.value (((l.getD k default)).value)) cq.seq).key.toInt), .int .i64 ((Rec.mk cq.dead cq.key (doneC (chkB kz l1 l2 l3) l2 cq.value (((l.getD k default)).value)) cq.seq).value.toInt), .int .i64 ((Rec.mk cq.dead cq.key (doneC (chkB kz l1 l2 l3) l2 cq.value (((l.getD k default)).value)) cq.seq).seq.toInt)], cel b_1 84 [.int .i64 kz, .slice a1 n1 c1, .slice a2 n2 c2, .slice a3 n3 c3]], .p (.t .h) (.p .h (.p (.t (.t (.t .h))) (.p (.t .h) (.p (.t (.t .h)) .nil)))), ⟨(os ++ [deadR]), (Rec.mk cq.dead cq.key (doneC (chkB kz l1 l2 l3) l2 cq.value (((l.getD k default)).value)) cq.seq), a_19, c_20, (run15_step (by assumption) (by omega) (by first | exact cstp_1 (by assumption) (by assumption) (by assumption) | exact cstp_a (by assumption) (by assumption) | exact cstp_b (by assumption) (by assumption) | exact cstp_c (by assumption) (by assumption) | exact cstp_d (by assumption) (by assumption) (by assumption))), (by rw [List.length_append, List.length_singleton]; omega), rfl⟩⟩
          · -- decide ((((l.getD k default)).key) = cq.key) false
            have p17 := of_decide_eq_false b17
            refine wpS_skip ?_
            refine thenS_n ?_
            refine wpS_seq ?_
            refine wpS_region ?_
            refine s_y (v := .agg #[.bool (deadR.dead), .int .i64 (deadR.key.toInt), .int .i64 (deadR.value.toInt), .int .i64 (deadR.seq.toInt)]) (y_call (args := #[]) (v := .agg #[.bool (deadR.dead), .int .i64 (deadR.key.toInt), .int .i64 (deadR.value.toInt), .int .i64 (deadR.seq.toInt)]) Try.call49 ev0 (fun w hs => dead_c w)) rfl ?_
            refine s_e rfl ?_
            refine e_alloc (l := [.bool false, .int .i64 0, .int .i64 0, .int .i64 0]) Try.zeroValue23 rfl ?_
            intro b_21
            refine s_e0 ?_
            refine e_store (vs := [.bool (deadR.dead), .int .i64 (deadR.key.toInt), .int .i64 (deadR.value.toInt), .int .i64 (deadR.seq.toInt)]) (l' := [.bool (deadR.dead), .int .i64 (deadR.key.toInt), .int .i64 (deadR.value.toInt), .int .i64 (deadR.seq.toInt)]) rfl rfl rfl rfl Try.sizeOf23 .h (Nat.le_of_ble_eq_true rfl) rfl ?_
            refine wpL_nil ?_
            refine thenS_n ?_
            refine wpS_seq ?_
            refine wpS_seq ?_
            refine wpS_region ?_
            refine s_y (v := .pointer (some ⟨b_2, 0, none⟩)) (y_fieldAddr (o' := 0) rfl Try.underlying23 rfl Try.sizeOf4 (by decide) rfl) rfl ?_
            refine s_y (v := .bool (cq.dead)) (y_load1 rfl Try.isAgg4 (own1 (.t (.t (.t (.t (.t .h))))) rfl)) rfl ?_
            refine s_y (v := .bool (!cq.dead)) (y_not (b := cq.dead) rfl) rfl ?_
            refine wpL_nil ?_
            refine thenS_n ?_
            refine wpS_cond_T (t := !cq.dead) rfl b15 ?_
            refine wpS_anyL [cel b_2 23 [.bool (cq.dead), .int .i64 (cq.key.toInt), .int .i64 (cq.value.toInt), .int .i64 (cq.seq.toInt)], cel b_1 84 [.int .i64 kz, .slice a1 n1 c1, .slice a2 n2 c2, .slice a3 n3 c3]] [] (by kernel_rfl) ?_
            refine anyS_take (i := 0) rfl (by kernel_rfl) (by kernel_rfl) (by kernel_rfl) (by kernel_rfl) (Yq.of (v := .pointer (some ⟨b_2, 1, none⟩)) (y_fieldAddr (o' := 1) rfl Try.underlying23 rfl Try.sizeOf2 (by decide) rfl) rfl) (.p (.t (.t (.t (.t (.t .h))))) (.p (.t (.t (.t (.t (.t .h))))) .nil)) ?_
            refine anyS_take (i := 1) rfl (by kernel_rfl) (by kernel_rfl) (by kernel_rfl) (by kernel_rfl) (Yq.of (v := .int .i64 (cq.key.toInt)) (y_load1 rfl Try.isAgg2 (own1 .h rfl)) rfl) (.p (.t (.t (.t (.t (.t .h))))) (.p (.t (.t (.t (.t (.t .h))))) .nil)) ?_
            refine anyS_take (i := 2) rfl (by kernel_rfl) (by kernel_rfl) (by kernel_rfl) (by kernel_rfl) (Yq.of (v := .agg #[.int .i64 kz, .slice a1 n1 c1, .slice a2 n2 c2, .slice a3 n3 c3]) (y_loadN (vs := [.int .i64 kz, .slice a1 n1 c1, .slice a2 n2 c2, .slice a3 n3 c3]) rfl Try.isAgg84 Try.sizeOf84 (ownN (.t .h) rfl)) rfl) (.p (.t (.t (.t (.t (.t .h))))) (.p (.t (.t (.t (.t (.t .h))))) .nil)) ?_
            refine anyS_take (i := 3) rfl (by kernel_rfl) (by kernel_rfl) (by kernel_rfl) (by kernel_rfl) (Yq.of (v := .pointer (some ⟨b_2, 1, none⟩)) (y_fieldAddr (o' := 1) rfl Try.underlying23 rfl Try.sizeOf2 (by decide) rfl) rfl) (.p (.t (.t (.t (.t (.t .h))))) (.p (.t (.t (.t (.t (.t .h))))) .nil)) ?_
            refine anyS_take (i := 4) rfl (by kernel_rfl) (by kernel_rfl) (by kernel_rfl) (by kernel_rfl) (Yq.of (v := .int .i64 (cq.key.toInt)) (y_load1 rfl Try.isAgg2 (own1 .h rfl)) rfl) (.p (.t (.t (.t (.t (.t .h))))) (.p (.t (.t (.t (.t (.t .h))))) .nil)) ?_
            refine anyS_take (i := 5) rfl (by kernel_rfl) (by kernel_rfl) (by kernel_rfl) (by kernel_rfl) (Yq.of (v := .pointer (some ⟨b_2, 2, none⟩)) (y_fieldAddr (o' := 2) rfl Try.underlying23 rfl Try.sizeOf2 (by decide) rfl) rfl) (.p (.t (.t (.t (.t (.t .h))))) (.p (.t (.t (.t (.t (.t .h))))) .nil)) ?_
            refine anyS_take (i := 6) rfl (by kernel_rfl) (by kernel_rfl) (by kernel_rfl) (by kernel_rfl) (Yq.of (v := .int .i64 (cq.value.toInt)) (y_load1 rfl Try.isAgg2 (own1 .h rfl)) rfl) (.p (.t (.t (.t (.t (.t .h))))) (.p (.t (.t (.t (.t (.t .h))))) .nil)) ?_
            refine anyS_take (i := 7) rfl (by kernel_rfl) (by kernel_rfl) (by kernel_rfl) (by kernel_rfl) (Yq.of (v := .int .i64 (((doneC (chkB kz l1 l2 l3) l3 cq.value cq.key)).toInt)) (y_call (args := #[.agg #[.int .i64 kz, .slice a1 n1 c1, .slice a2 n2 c2, .slice a3 n3 c3], .int .i64 (cq.key.toInt), .int .i64 (cq.value.toInt)]) (v := .int .i64 (((doneC (chkB kz l1 l2 l3) l3 cq.value cq.key)).toInt)) Try.call89 (ev3 rfl rfl rfl) (fun w hs => finish_c kz a1 a2 a3 n1 c1 n2 c2 n3 c3 l1 l2 l3 cq.key cq.value w hn1 ((hrd10 _) w hs) (by omega) hn2 ((hrd11 _) w hs) (by omega) hn3 ((hrd12 _) w hs) (by omega))) rfl) (.p (.t (.t (.t (.t (.t .h))))) (.p (.t (.t (.t (.t (.t .h))))) .nil)) ?_
            refine anyS_take (i := 8) rfl (by kernel_rfl) (by kernel_rfl) (by kernel_rfl) (by kernel_rfl) (Yq.of (v := .agg #[.bool false, .int .i64 (cq.key.toInt), .int .i64 (((doneC (chkB kz l1 l2 l3) l3 cq.value cq.key)).toInt), .int .i64 0]) (y_buildL (m := [(1, .int .i64 (cq.key.toInt)), (2, .int .i64 (((doneC (chkB kz l1 l2 l3) l3 cq.value cq.key)).toInt))]) (vs := #[.bool false, .int .i64 (cq.key.toInt), .int .i64 (((doneC (chkB kz l1 l2 l3) l3 cq.value cq.key)).toInt), .int .i64 0]) (evc rfl (evc rfl evn)) (fun w => by kernel_rfl)) rfl) (.p (.t (.t (.t (.t (.t .h))))) (.p (.t (.t (.t (.t (.t .h))))) .nil)) ?_
            refine anyS_all (rs := [9]) (by kernel_rfl) (by simp) ?_
            intro i hi; obtain rfl := List.mem_singleton.1 hi; clear hi
            refine opS_0 rfl rfl ?_
            refine e_store (vs := [.bool false, .int .i64 (cq.key.toInt), .int .i64 (((doneC (chkB kz l1 l2 l3) l3 cq.value cq.key)).toInt), .int .i64 0]) (l' := [.bool false, .int .i64 (cq.key.toInt), .int .i64 (((doneC (chkB kz l1 l2 l3) l3 cq.value cq.key)).toInt), .int .i64 0]) rfl rfl rfl rfl Try.sizeOf23 .h (Nat.le_of_ble_eq_true rfl) rfl ?_
            refine ⟨.inr (.p (.t (.t (.t (.t (.t .h))))) (.p (.t (.t (.t (.t (.t .h))))) .nil)), ?_⟩
            refine anyS_done (by kernel_rfl) ?_
            refine thenS_n ?_
            refine wpS_seq ?_
            refine wpS_region ?_
            refine s_y (v := .slice b1 os.length d1) (y_load1 rfl Try.isAgg69 (own1 (.t (.t (.t .h))) rfl)) rfl ?_
            refine s_y (v := .agg #[.bool false, .int .i64 (cq.key.toInt), .int .i64 (((doneC (chkB kz l1 l2 l3) l3 cq.value cq.key)).toInt), .int .i64 0]) (y_loadN (vs := [.bool false, .int .i64 (cq.key.toInt), .int .i64 (((doneC (chkB kz l1 l2 l3) l3 cq.value cq.key)).toInt), .int .i64 0]) rfl Try.isAgg23 Try.sizeOf23 (ownN .h rfl)) rfl ?_
            refine s_e rfl ?_
            refine e_bsliceL (e := 23) (m := [(0, .agg #[.bool false, .int .i64 (cq.key.toInt), .int .i64 (((doneC (chkB kz l1 l2 l3) l3 cq.value cq.key)).toInt), .int .i64 0])]) (l := [.bool false, .int .i64 (cq.key.toInt), .int .i64 (((doneC (chkB kz l1 l2 l3) l3 cq.value cq.key)).toInt), .int .i64 0]) (evc rfl evn) (fun w => by kernel_rfl) ?_
            intro b_22
            refine s_e rfl ?_
            refine e_appendL (enc := recV) (xs := (os : List Rec)) (ns := ([(Rec.mk false cq.key (doneC (chkB kz l1 l2 l3) l3 cq.value cq.key) 0)] : List Rec)) (zs := (os ++ [(Rec.mk false cq.key (doneC (chkB kz l1 l2 l3) l3 cq.value cq.key) 0)])) (bytes := 32) recV_len recV_one Try.underlying69 (i := Try.t23) rfl rfl rfl rfl rfl (by decide) rfl rfl (by first | rfl | omega) (by first | rfl | omega) (.t (.t (.t .h))) (fun w hs => celR .h w hs) (by first | rfl | simp) (by (try simp only [List.length_append, List.length_cons, List.length_nil] at *); omega) (by (try simp only [List.length_append, List.length_cons, List.length_nil] at *); omega) ?_
            intro a_23 c_24
            refine s_e0 ?_
            refine e_store (vs := [.slice a_23 ((os ++ [(Rec.mk false cq.key (doneC (chkB kz l1 l2 l3) l3 cq.value cq.key) 0)]).length) c_24]) (l' := [.slice a_23 ((os ++ [(Rec.mk false cq.key (doneC (chkB kz l1 l2 l3) l3 cq.value cq.key) 0)]).length) c_24]) rfl rfl rfl rfl Try.sizeOf69 (.t (.t (.t (.t .h)))) (Nat.le_of_ble_eq_true rfl) rfl ?_
            refine wpL_nil ?_
            refine thenS_n ?_
            refine wpS_seq ?_
            refine wpS_region ?_
            refine s_y (v := .agg #[.bool (deadR.dead), .int .i64 (deadR.key.toInt), .int .i64 (deadR.value.toInt), .int .i64 (deadR.seq.toInt)]) (y_call (args := #[]) (v := .agg #[.bool (deadR.dead), .int .i64 (deadR.key.toInt), .int .i64 (deadR.value.toInt), .int .i64 (deadR.seq.toInt)]) Try.call49 ev0 (fun w hs => dead_c w)) rfl ?_
            refine s_e0 ?_
            refine e_store (vs := [.bool (deadR.dead), .int .i64 (deadR.key.toInt), .int .i64 (deadR.value.toInt), .int .i64 (deadR.seq.toInt)]) (l' := [.bool (deadR.dead), .int .i64 (deadR.key.toInt), .int .i64 (deadR.value.toInt), .int .i64 (deadR.seq.toInt)]) rfl rfl rfl rfl Try.sizeOf23 (.t (.t (.t (.t (.t (.t .h)))))) (Nat.le_of_ble_eq_true rfl) rfl ?_
            refine wpL_nil ?_
            refine thenS_n ?_
            refine wpS_seq ?_
            refine wpS_region ?_
            refine s_y (v := .pointer (some ⟨b_8, 0, none⟩)) (y_fieldAddr (o' := 0) rfl Try.underlying23 rfl Try.sizeOf4 (by decide) rfl) rfl ?_
            refine s_y (v := .bool (((l.getD k default)).dead)) (y_load1 rfl Try.isAgg4 (own1 (.t (.t (.t (.t (.t .h))))) rfl)) rfl ?_
            refine s_y (v := .bool (!(((l.getD k default)).dead))) (y_not (b := ((l.getD k default)).dead) rfl) rfl ?_
            refine wpL_nil ?_
            refine thenS_n ?_
            refine wpS_cond_T (t := !(((l.getD k default)).dead)) rfl b13 ?_
            refine wpS_region ?_
            refine s_y (v := .pointer (some ⟨b_8, 1, none⟩)) (y_fieldAddr (o' := 1) rfl Try.underlying23 rfl Try.sizeOf2 (by decide) rfl) rfl ?_
            refine s_y (v := .int .i64 ((((l.getD k default)).key).toInt)) (y_load1 rfl Try.isAgg2 (own1 (.t (.t (.t (.t (.t .h))))) rfl)) rfl ?_
            refine s_y (v := .pointer (some ⟨b_8, 2, none⟩)) (y_fieldAddr (o' := 2) rfl Try.underlying23 rfl Try.sizeOf2 (by decide) rfl) rfl ?_
            refine s_y (v := .int .i64 ((((l.getD k default)).value).toInt)) (y_load1 rfl Try.isAgg2 (own1 (.t (.t (.t (.t (.t .h))))) rfl)) rfl ?_
            refine s_y (v := .agg #[.bool false, .int .i64 ((((l.getD k default)).key).toInt), .int .i64 ((((l.getD k default)).value).toInt), .int .i64 0]) (y_buildL (m := [(1, .int .i64 ((((l.getD k default)).key).toInt)), (2, .int .i64 ((((l.getD k default)).value).toInt))]) (vs := #[.bool false, .int .i64 ((((l.getD k default)).key).toInt), .int .i64 ((((l.getD k default)).value).toInt), .int .i64 0]) (evc rfl (evc rfl evn)) (fun w => by kernel_rfl)) rfl ?_
            refine s_e0 ?_
            refine e_store (vs := [.bool false, .int .i64 ((((l.getD k default)).key).toInt), .int .i64 ((((l.getD k default)).value).toInt), .int .i64 0]) (l' := [.bool false, .int .i64 ((((l.getD k default)).key).toInt), .int .i64 ((((l.getD k default)).value).toInt), .int .i64 0]) rfl rfl rfl rfl Try.sizeOf23 .h (Nat.le_of_ble_eq_true rfl) rfl ?_
            refine wpL_nil ?_
            refine blockS_n ?_
            exact rnd_n ⟨[osl a_23 c_24 ((os ++ [(Rec.mk false cq.key (doneC (chkB kz l1 l2 l3) l3 cq.value cq.key) 0)]).length) 4 23 ((os ++ [(Rec.mk false cq.key (doneC (chkB kz l1 l2 l3) l3 cq.value cq.key) 0)]).flatMap recV), cel b_5 69 [.slice a_23 (os ++ [(Rec.mk false cq.key (doneC (chkB kz l1 l2 l3) l3 cq.value cq.key) 0)]).length c_24], cel b_3 23 [.bool false, .int .i64 0, .int .i64 0, .int .i64 0], cel b_2 23 [.bool ((Rec.mk false (((l.getD k default)).key) (((l.getD k default)).value) 0).dead), .int .i64 ((Rec.mk false (((l.getD k default)).key) (((l.getD k default)).value) 0).key.toInt), .int .i64 ((Rec.mk false (((l.getD k default)).key) (((l.getD k default)).value) 0).value.toInt), .int .i64 ((Rec.mk false (((l.getD k default)).key) (((l.getD k default)).value) 0).seq.toInt)], cel b_1 84 [.int .i64 kz, .slice a1 n1 c1, .slice a2 n2 c2, .slice a3 n3 c3]], .p (.t (.t .h)) (.p (.t .h) (.p (.t (.t (.t (.t .h)))) (.p .h (.p (.t (.t (.t .h))) .nil)))), ⟨(os ++ [(Rec.mk false cq.key (doneC (chkB kz l1 l2 l3) l3 cq.value cq.key) 0)]), (Rec.mk false (((l.getD k default)).key) (((l.getD k default)).value) 0), a_23, c_24, (run15_step (by assumption) (by omega) (by first | exact cstp_1 (by assumption) (by assumption) (by assumption) | exact cstp_a (by assumption) (by assumption) | exact cstp_b (by assumption) (by assumption) | exact cstp_c (by assumption) (by assumption) | exact cstp_d (by assumption) (by assumption) (by assumption))), (by rw [List.length_append, List.length_singleton]; omega), rfl⟩⟩
        · -- !cq.dead False
          have b25 : cq.dead = true := by simpa using b15
          refine s_no rfl rfl rfl rfl (b' := !cq.dead) rfl b15 ?_
          refine s_no rfl rfl rfl rfl (b' := !cq.dead) rfl b15 ?_
          refine s_no rfl rfl rfl rfl (b' := !cq.dead) rfl b15 ?_
          refine s_no rfl rfl rfl rfl (b' := !cq.dead) rfl b15 ?_
          refine s_no rfl rfl rfl rfl (b' := !cq.dead) rfl b15 ?_
          refine s_y (v := .bool false) (y_pickF (b := !cq.dead) (v := .bool false) rfl b15 rfl) rfl ?_
          refine wpL_nil ?_
          refine thenS_n ?_
          refine wpS_cond_f rfl ?_
          refine wpS_skip ?_
          refine thenS_n ?_
          refine wpS_seq ?_
          refine wpS_region ?_
          refine s_y (v := .agg #[.bool (deadR.dead), .int .i64 (deadR.key.toInt), .int .i64 (deadR.value.toInt), .int .i64 (deadR.seq.toInt)]) (y_call (args := #[]) (v := .agg #[.bool (deadR.dead), .int .i64 (deadR.key.toInt), .int .i64 (deadR.value.toInt), .int .i64 (deadR.seq.toInt)]) Try.call49 ev0 (fun w hs => dead_c w)) rfl ?_
          refine s_e rfl ?_
          refine e_alloc (l := [.bool false, .int .i64 0, .int .i64 0, .int .i64 0]) Try.zeroValue23 rfl ?_
          intro b_26
          refine s_e0 ?_
          refine e_store (vs := [.bool (deadR.dead), .int .i64 (deadR.key.toInt), .int .i64 (deadR.value.toInt), .int .i64 (deadR.seq.toInt)]) (l' := [.bool (deadR.dead), .int .i64 (deadR.key.toInt), .int .i64 (deadR.value.toInt), .int .i64 (deadR.seq.toInt)]) rfl rfl rfl rfl Try.sizeOf23 .h (Nat.le_of_ble_eq_true rfl) rfl ?_
          refine wpL_nil ?_
          refine thenS_n ?_
          refine wpS_seq ?_
          refine wpS_seq ?_
          refine wpS_region ?_
          refine s_y (v := .pointer (some ⟨b_2, 0, none⟩)) (y_fieldAddr (o' := 0) rfl Try.underlying23 rfl Try.sizeOf4 (by decide) rfl) rfl ?_
          refine s_y (v := .bool (cq.dead)) (y_load1 rfl Try.isAgg4 (own1 (.t (.t (.t (.t (.t .h))))) rfl)) rfl ?_
          refine s_y (v := .bool (!cq.dead)) (y_not (b := cq.dead) rfl) rfl ?_
          refine wpL_nil ?_
          refine thenS_n ?_
          refine wpS_cond_F (t := !cq.dead) rfl b15 ?_
          refine wpS_skip ?_
          refine thenS_n ?_
          refine wpS_seq ?_
          refine wpS_region ?_
          refine s_y (v := .slice b1 os.length d1) (y_load1 rfl Try.isAgg69 (own1 (.t (.t (.t .h))) rfl)) rfl ?_
          refine s_y (v := .agg #[.bool (deadR.dead), .int .i64 (deadR.key.toInt), .int .i64 (deadR.value.toInt), .int .i64 (deadR.seq.toInt)]) (y_loadN (vs := [.bool (deadR.dead), .int .i64 (deadR.key.toInt), .int .i64 (deadR.value.toInt), .int .i64 (deadR.seq.toInt)]) rfl Try.isAgg23 Try.sizeOf23 (ownN .h rfl)) rfl ?_
          refine s_e rfl ?_
          refine e_bsliceL (e := 23) (m := [(0, .agg #[.bool (deadR.dead), .int .i64 (deadR.key.toInt), .int .i64 (deadR.value.toInt), .int .i64 (deadR.seq.toInt)])]) (l := [.bool (deadR.dead), .int .i64 (deadR.key.toInt), .int .i64 (deadR.value.toInt), .int .i64 (deadR.seq.toInt)]) (evc rfl evn) (fun w => by kernel_rfl) ?_
          intro b_27
          refine s_e rfl ?_
          refine e_appendL (enc := recV) (xs := (os : List Rec)) (ns := ([deadR] : List Rec)) (zs := (os ++ [deadR])) (bytes := 32) recV_len recV_one Try.underlying69 (i := Try.t23) rfl rfl rfl rfl rfl (by decide) rfl rfl (by first | rfl | omega) (by first | rfl | omega) (.t (.t (.t .h))) (fun w hs => celR .h w hs) (by first | rfl | simp) (by (try simp only [List.length_append, List.length_cons, List.length_nil] at *); omega) (by (try simp only [List.length_append, List.length_cons, List.length_nil] at *); omega) ?_
          intro a_28 c_29
          refine s_e0 ?_
          refine e_store (vs := [.slice a_28 ((os ++ [deadR]).length) c_29]) (l' := [.slice a_28 ((os ++ [deadR]).length) c_29]) rfl rfl rfl rfl Try.sizeOf69 (.t (.t (.t (.t .h)))) (Nat.le_of_ble_eq_true rfl) rfl ?_
          refine wpL_nil ?_
          refine thenS_n ?_
          refine wpS_seq ?_
          refine wpS_region ?_
          refine s_y (v := .agg #[.bool (deadR.dead), .int .i64 (deadR.key.toInt), .int .i64 (deadR.value.toInt), .int .i64 (deadR.seq.toInt)]) (y_call (args := #[]) (v := .agg #[.bool (deadR.dead), .int .i64 (deadR.key.toInt), .int .i64 (deadR.value.toInt), .int .i64 (deadR.seq.toInt)]) Try.call49 ev0 (fun w hs => dead_c w)) rfl ?_
          refine s_e0 ?_
          refine e_store (vs := [.bool (deadR.dead), .int .i64 (deadR.key.toInt), .int .i64 (deadR.value.toInt), .int .i64 (deadR.seq.toInt)]) (l' := [.bool (deadR.dead), .int .i64 (deadR.key.toInt), .int .i64 (deadR.value.toInt), .int .i64 (deadR.seq.toInt)]) rfl rfl rfl rfl Try.sizeOf23 (.t (.t (.t (.t (.t (.t .h)))))) (Nat.le_of_ble_eq_true rfl) rfl ?_
          refine wpL_nil ?_
          refine thenS_n ?_
          refine wpS_seq ?_
          refine wpS_region ?_
          refine s_y (v := .pointer (some ⟨b_8, 0, none⟩)) (y_fieldAddr (o' := 0) rfl Try.underlying23 rfl Try.sizeOf4 (by decide) rfl) rfl ?_
          refine s_y (v := .bool (((l.getD k default)).dead)) (y_load1 rfl Try.isAgg4 (own1 (.t (.t (.t (.t (.t .h))))) rfl)) rfl ?_
          refine s_y (v := .bool (!(((l.getD k default)).dead))) (y_not (b := ((l.getD k default)).dead) rfl) rfl ?_
          refine wpL_nil ?_
          refine thenS_n ?_
          refine wpS_cond_T (t := !(((l.getD k default)).dead)) rfl b13 ?_
          refine wpS_region ?_
          refine s_y (v := .pointer (some ⟨b_8, 1, none⟩)) (y_fieldAddr (o' := 1) rfl Try.underlying23 rfl Try.sizeOf2 (by decide) rfl) rfl ?_
          refine s_y (v := .int .i64 ((((l.getD k default)).key).toInt)) (y_load1 rfl Try.isAgg2 (own1 (.t (.t (.t (.t (.t .h))))) rfl)) rfl ?_
          refine s_y (v := .pointer (some ⟨b_8, 2, none⟩)) (y_fieldAddr (o' := 2) rfl Try.underlying23 rfl Try.sizeOf2 (by decide) rfl) rfl ?_
          refine s_y (v := .int .i64 ((((l.getD k default)).value).toInt)) (y_load1 rfl Try.isAgg2 (own1 (.t (.t (.t (.t (.t .h))))) rfl)) rfl ?_
          refine s_y (v := .agg #[.bool false, .int .i64 ((((l.getD k default)).key).toInt), .int .i64 ((((l.getD k default)).value).toInt), .int .i64 0]) (y_buildL (m := [(1, .int .i64 ((((l.getD k default)).key).toInt)), (2, .int .i64 ((((l.getD k default)).value).toInt))]) (vs := #[.bool false, .int .i64 ((((l.getD k default)).key).toInt), .int .i64 ((((l.getD k default)).value).toInt), .int .i64 0]) (evc rfl (evc rfl evn)) (fun w => by kernel_rfl)) rfl ?_
          refine s_e0 ?_
          refine e_store (vs := [.bool false, .int .i64 ((((l.getD k default)).key).toInt), .int .i64 ((((l.getD k default)).value).toInt), .int .i64 0]) (l' := [.bool false, .int .i64 ((((l.getD k default)).key).toInt), .int .i64 ((((l.getD k default)).value).toInt), .int .i64 0]) rfl rfl rfl rfl Try.sizeOf23 .h (Nat.le_of_ble_eq_true rfl) rfl ?_
          refine wpL_nil ?_
          refine blockS_n ?_
          exact rnd_n ⟨[osl a_28 c_29 ((os ++ [deadR]).length) 4 23 ((os ++ [deadR]).flatMap recV), cel b_5 69 [.slice a_28 (os ++ [deadR]).length c_29], cel b_3 23 [.bool false, .int .i64 0, .int .i64 0, .int .i64 0], cel b_2 23 [.bool ((Rec.mk false (((l.getD k default)).key) (((l.getD k default)).value) 0).dead), .int .i64 ((Rec.mk false (((l.getD k default)).key) (((l.getD k default)).value) 0).key.toInt), .int .i64 ((Rec.mk false (((l.getD k default)).key) (((l.getD k default)).value) 0).value.toInt), .int .i64 ((Rec.mk false (((l.getD k default)).key) (((l.getD k default)).value) 0).seq.toInt)], cel b_1 84 [.int .i64 kz, .slice a1 n1 c1, .slice a2 n2 c2, .slice a3 n3 c3]], .p (.t (.t .h)) (.p (.t .h) (.p (.t (.t (.t (.t .h)))) (.p .h (.p (.t (.t (.t .h))) .nil)))), ⟨(os ++ [deadR]), (Rec.mk false (((l.getD k default)).key) (((l.getD k default)).value) 0), a_28, c_29, (run15_step (by assumption) (by omega) (by first | exact cstp_1 (by assumption) (by assumption) (by assumption) | exact cstp_a (by assumption) (by assumption) | exact cstp_b (by assumption) (by assumption) | exact cstp_c (by assumption) (by assumption) | exact cstp_d (by assumption) (by assumption) (by assumption))), (by rw [List.length_append, List.length_singleton]; omega), rfl⟩⟩
      · -- !(((l.getD k default)).dead) False
        have b30 : (((l.getD k default)).dead) = true := by simpa using b13
        refine s_no rfl rfl rfl rfl (b' := !(((l.getD k default)).dead)) rfl b13 ?_
        refine s_no rfl rfl rfl rfl (b' := !(((l.getD k default)).dead)) rfl b13 ?_
        refine s_no rfl rfl rfl rfl (b' := !(((l.getD k default)).dead)) rfl b13 ?_
        refine s_y (v := .bool false) (y_pickF (b := !(((l.getD k default)).dead)) (v := .bool false) rfl b13 rfl) rfl ?_
        refine s_y (v := .bool false) (y_move rfl) rfl ?_
        refine s_no rfl rfl rfl rfl rfl rfl ?_
        refine s_no rfl rfl rfl rfl rfl rfl ?_
        refine s_no rfl rfl rfl rfl rfl rfl ?_
        refine s_no rfl rfl rfl rfl rfl rfl ?_
        refine s_no rfl rfl rfl rfl rfl rfl ?_
        refine s_y (v := .bool false) (y_pickF (v := .bool false) rfl rfl rfl) rfl ?_
        refine wpL_nil ?_
        refine thenS_n ?_
        refine wpS_cond_f rfl ?_
        refine wpS_skip ?_
        refine thenS_n ?_
        refine wpS_seq ?_
        refine wpS_region ?_
        refine s_y (v := .agg #[.bool (deadR.dead), .int .i64 (deadR.key.toInt), .int .i64 (deadR.value.toInt), .int .i64 (deadR.seq.toInt)]) (y_call (args := #[]) (v := .agg #[.bool (deadR.dead), .int .i64 (deadR.key.toInt), .int .i64 (deadR.value.toInt), .int .i64 (deadR.seq.toInt)]) Try.call49 ev0 (fun w hs => dead_c w)) rfl ?_
        refine s_e rfl ?_
        refine e_alloc (l := [.bool false, .int .i64 0, .int .i64 0, .int .i64 0]) Try.zeroValue23 rfl ?_
        intro b_31
        refine s_e0 ?_
        refine e_store (vs := [.bool (deadR.dead), .int .i64 (deadR.key.toInt), .int .i64 (deadR.value.toInt), .int .i64 (deadR.seq.toInt)]) (l' := [.bool (deadR.dead), .int .i64 (deadR.key.toInt), .int .i64 (deadR.value.toInt), .int .i64 (deadR.seq.toInt)]) rfl rfl rfl rfl Try.sizeOf23 .h (Nat.le_of_ble_eq_true rfl) rfl ?_
        refine wpL_nil ?_
        refine thenS_n ?_
        refine wpS_seq ?_
        refine wpS_seq ?_
        refine wpS_region ?_
        refine s_y (v := .pointer (some ⟨b_2, 0, none⟩)) (y_fieldAddr (o' := 0) rfl Try.underlying23 rfl Try.sizeOf4 (by decide) rfl) rfl ?_
        refine s_y (v := .bool (cq.dead)) (y_load1 rfl Try.isAgg4 (own1 (.t (.t (.t (.t (.t .h))))) rfl)) rfl ?_
        refine s_y (v := .bool (!cq.dead)) (y_not (b := cq.dead) rfl) rfl ?_
        refine wpL_nil ?_
        refine thenS_n ?_
        refine wpS_cond (t := !cq.dead) rfl (fun b32 => ?_) (fun b32 => ?_)
        · -- !cq.dead true
          have b33 : cq.dead = false := by simpa using b32
          refine wpS_anyL [cel b_2 23 [.bool (cq.dead), .int .i64 (cq.key.toInt), .int .i64 (cq.value.toInt), .int .i64 (cq.seq.toInt)], cel b_1 84 [.int .i64 kz, .slice a1 n1 c1, .slice a2 n2 c2, .slice a3 n3 c3]] [] (by kernel_rfl) ?_
          refine anyS_take (i := 0) rfl (by kernel_rfl) (by kernel_rfl) (by kernel_rfl) (by kernel_rfl) (Yq.of (v := .pointer (some ⟨b_2, 1, none⟩)) (y_fieldAddr (o' := 1) rfl Try.underlying23 rfl Try.sizeOf2 (by decide) rfl) rfl) (.p (.t (.t (.t (.t (.t .h))))) (.p (.t (.t (.t (.t (.t .h))))) .nil)) ?_
          refine anyS_take (i := 1) rfl (by kernel_rfl) (by kernel_rfl) (by kernel_rfl) (by kernel_rfl) (Yq.of (v := .int .i64 (cq.key.toInt)) (y_load1 rfl Try.isAgg2 (own1 .h rfl)) rfl) (.p (.t (.t (.t (.t (.t .h))))) (.p (.t (.t (.t (.t (.t .h))))) .nil)) ?_
          refine anyS_take (i := 2) rfl (by kernel_rfl) (by kernel_rfl) (by kernel_rfl) (by kernel_rfl) (Yq.of (v := .agg #[.int .i64 kz, .slice a1 n1 c1, .slice a2 n2 c2, .slice a3 n3 c3]) (y_loadN (vs := [.int .i64 kz, .slice a1 n1 c1, .slice a2 n2 c2, .slice a3 n3 c3]) rfl Try.isAgg84 Try.sizeOf84 (ownN (.t .h) rfl)) rfl) (.p (.t (.t (.t (.t (.t .h))))) (.p (.t (.t (.t (.t (.t .h))))) .nil)) ?_
          refine anyS_take (i := 3) rfl (by kernel_rfl) (by kernel_rfl) (by kernel_rfl) (by kernel_rfl) (Yq.of (v := .pointer (some ⟨b_2, 1, none⟩)) (y_fieldAddr (o' := 1) rfl Try.underlying23 rfl Try.sizeOf2 (by decide) rfl) rfl) (.p (.t (.t (.t (.t (.t .h))))) (.p (.t (.t (.t (.t (.t .h))))) .nil)) ?_
          refine anyS_take (i := 4) rfl (by kernel_rfl) (by kernel_rfl) (by kernel_rfl) (by kernel_rfl) (Yq.of (v := .int .i64 (cq.key.toInt)) (y_load1 rfl Try.isAgg2 (own1 .h rfl)) rfl) (.p (.t (.t (.t (.t (.t .h))))) (.p (.t (.t (.t (.t (.t .h))))) .nil)) ?_
          refine anyS_take (i := 5) rfl (by kernel_rfl) (by kernel_rfl) (by kernel_rfl) (by kernel_rfl) (Yq.of (v := .pointer (some ⟨b_2, 2, none⟩)) (y_fieldAddr (o' := 2) rfl Try.underlying23 rfl Try.sizeOf2 (by decide) rfl) rfl) (.p (.t (.t (.t (.t (.t .h))))) (.p (.t (.t (.t (.t (.t .h))))) .nil)) ?_
          refine anyS_take (i := 6) rfl (by kernel_rfl) (by kernel_rfl) (by kernel_rfl) (by kernel_rfl) (Yq.of (v := .int .i64 (cq.value.toInt)) (y_load1 rfl Try.isAgg2 (own1 .h rfl)) rfl) (.p (.t (.t (.t (.t (.t .h))))) (.p (.t (.t (.t (.t (.t .h))))) .nil)) ?_
          refine anyS_take (i := 7) rfl (by kernel_rfl) (by kernel_rfl) (by kernel_rfl) (by kernel_rfl) (Yq.of (v := .int .i64 (((doneC (chkB kz l1 l2 l3) l3 cq.value cq.key)).toInt)) (y_call (args := #[.agg #[.int .i64 kz, .slice a1 n1 c1, .slice a2 n2 c2, .slice a3 n3 c3], .int .i64 (cq.key.toInt), .int .i64 (cq.value.toInt)]) (v := .int .i64 (((doneC (chkB kz l1 l2 l3) l3 cq.value cq.key)).toInt)) Try.call89 (ev3 rfl rfl rfl) (fun w hs => finish_c kz a1 a2 a3 n1 c1 n2 c2 n3 c3 l1 l2 l3 cq.key cq.value w hn1 ((hrd10 _) w hs) (by omega) hn2 ((hrd11 _) w hs) (by omega) hn3 ((hrd12 _) w hs) (by omega))) rfl) (.p (.t (.t (.t (.t (.t .h))))) (.p (.t (.t (.t (.t (.t .h))))) .nil)) ?_
          refine anyS_take (i := 8) rfl (by kernel_rfl) (by kernel_rfl) (by kernel_rfl) (by kernel_rfl) (Yq.of (v := .agg #[.bool false, .int .i64 (cq.key.toInt), .int .i64 (((doneC (chkB kz l1 l2 l3) l3 cq.value cq.key)).toInt), .int .i64 0]) (y_buildL (m := [(1, .int .i64 (cq.key.toInt)), (2, .int .i64 (((doneC (chkB kz l1 l2 l3) l3 cq.value cq.key)).toInt))]) (vs := #[.bool false, .int .i64 (cq.key.toInt), .int .i64 (((doneC (chkB kz l1 l2 l3) l3 cq.value cq.key)).toInt), .int .i64 0]) (evc rfl (evc rfl evn)) (fun w => by kernel_rfl)) rfl) (.p (.t (.t (.t (.t (.t .h))))) (.p (.t (.t (.t (.t (.t .h))))) .nil)) ?_
          refine anyS_all (rs := [9]) (by kernel_rfl) (by simp) ?_
          intro i hi; obtain rfl := List.mem_singleton.1 hi; clear hi
          refine opS_0 rfl rfl ?_
          refine e_store (vs := [.bool false, .int .i64 (cq.key.toInt), .int .i64 (((doneC (chkB kz l1 l2 l3) l3 cq.value cq.key)).toInt), .int .i64 0]) (l' := [.bool false, .int .i64 (cq.key.toInt), .int .i64 (((doneC (chkB kz l1 l2 l3) l3 cq.value cq.key)).toInt), .int .i64 0]) rfl rfl rfl rfl Try.sizeOf23 .h (Nat.le_of_ble_eq_true rfl) rfl ?_
          refine ⟨.inr (.p (.t (.t (.t (.t (.t .h))))) (.p (.t (.t (.t (.t (.t .h))))) .nil)), ?_⟩
          refine anyS_done (by kernel_rfl) ?_
          refine thenS_n ?_
          refine wpS_seq ?_
          refine wpS_region ?_
          refine s_y (v := .slice b1 os.length d1) (y_load1 rfl Try.isAgg69 (own1 (.t (.t (.t .h))) rfl)) rfl ?_
          refine s_y (v := .agg #[.bool false, .int .i64 (cq.key.toInt), .int .i64 (((doneC (chkB kz l1 l2 l3) l3 cq.value cq.key)).toInt), .int .i64 0]) (y_loadN (vs := [.bool false, .int .i64 (cq.key.toInt), .int .i64 (((doneC (chkB kz l1 l2 l3) l3 cq.value cq.key)).toInt), .int .i64 0]) rfl Try.isAgg23 Try.sizeOf23 (ownN .h rfl)) rfl ?_
          refine s_e rfl ?_
          refine e_bsliceL (e := 23) (m := [(0, .agg #[.bool false, .int .i64 (cq.key.toInt), .int .i64 (((doneC (chkB kz l1 l2 l3) l3 cq.value cq.key)).toInt), .int .i64 0])]) (l := [.bool false, .int .i64 (cq.key.toInt), .int .i64 (((doneC (chkB kz l1 l2 l3) l3 cq.value cq.key)).toInt), .int .i64 0]) (evc rfl evn) (fun w => by kernel_rfl) ?_
          intro b_34
          refine s_e rfl ?_
          refine e_appendL (enc := recV) (xs := (os : List Rec)) (ns := ([(Rec.mk false cq.key (doneC (chkB kz l1 l2 l3) l3 cq.value cq.key) 0)] : List Rec)) (zs := (os ++ [(Rec.mk false cq.key (doneC (chkB kz l1 l2 l3) l3 cq.value cq.key) 0)])) (bytes := 32) recV_len recV_one Try.underlying69 (i := Try.t23) rfl rfl rfl rfl rfl (by decide) rfl rfl (by first | rfl | omega) (by first | rfl | omega) (.t (.t (.t .h))) (fun w hs => celR .h w hs) (by first | rfl | simp) (by (try simp only [List.length_append, List.length_cons, List.length_nil] at *); omega) (by (try simp only [List.length_append, List.length_cons, List.length_nil] at *); omega) ?_
          intro a_35 c_36
          refine s_e0 ?_
          refine e_store (vs := [.slice a_35 ((os ++ [(Rec.mk false cq.key (doneC (chkB kz l1 l2 l3) l3 cq.value cq.key) 0)]).length) c_36]) (l' := [.slice a_35 ((os ++ [(Rec.mk false cq.key (doneC (chkB kz l1 l2 l3) l3 cq.value cq.key) 0)]).length) c_36]) rfl rfl rfl rfl Try.sizeOf69 (.t (.t (.t (.t .h)))) (Nat.le_of_ble_eq_true rfl) rfl ?_
          refine wpL_nil ?_
          refine thenS_n ?_
          refine wpS_seq ?_
          refine wpS_region ?_
          refine s_y (v := .agg #[.bool (deadR.dead), .int .i64 (deadR.key.toInt), .int .i64 (deadR.value.toInt), .int .i64 (deadR.seq.toInt)]) (y_call (args := #[]) (v := .agg #[.bool (deadR.dead), .int .i64 (deadR.key.toInt), .int .i64 (deadR.value.toInt), .int .i64 (deadR.seq.toInt)]) Try.call49 ev0 (fun w hs => dead_c w)) rfl ?_
          refine s_e0 ?_
          refine e_store (vs := [.bool (deadR.dead), .int .i64 (deadR.key.toInt), .int .i64 (deadR.value.toInt), .int .i64 (deadR.seq.toInt)]) (l' := [.bool (deadR.dead), .int .i64 (deadR.key.toInt), .int .i64 (deadR.value.toInt), .int .i64 (deadR.seq.toInt)]) rfl rfl rfl rfl Try.sizeOf23 (.t (.t (.t (.t (.t (.t .h)))))) (Nat.le_of_ble_eq_true rfl) rfl ?_
          refine wpL_nil ?_
          refine thenS_n ?_
          refine wpS_seq ?_
          refine wpS_region ?_
          refine s_y (v := .pointer (some ⟨b_8, 0, none⟩)) (y_fieldAddr (o' := 0) rfl Try.underlying23 rfl Try.sizeOf4 (by decide) rfl) rfl ?_
          refine s_y (v := .bool (((l.getD k default)).dead)) (y_load1 rfl Try.isAgg4 (own1 (.t (.t (.t (.t (.t .h))))) rfl)) rfl ?_
          refine s_y (v := .bool (!(((l.getD k default)).dead))) (y_not (b := ((l.getD k default)).dead) rfl) rfl ?_
          refine wpL_nil ?_
          refine thenS_n ?_
          refine wpS_cond_F (t := !(((l.getD k default)).dead)) rfl b13 ?_
          refine wpS_skip ?_
          refine blockS_n ?_
          exact rnd_n ⟨[osl a_35 c_36 ((os ++ [(Rec.mk false cq.key (doneC (chkB kz l1 l2 l3) l3 cq.value cq.key) 0)]).length) 4 23 ((os ++ [(Rec.mk false cq.key (doneC (chkB kz l1 l2 l3) l3 cq.value cq.key) 0)]).flatMap recV), cel b_5 69 [.slice a_35 (os ++ [(Rec.mk false cq.key (doneC (chkB kz l1 l2 l3) l3 cq.value cq.key) 0)]).length c_36], cel b_3 23 [.bool false, .int .i64 0, .int .i64 0, .int .i64 0], cel b_2 23 [.bool (deadR.dead), .int .i64 (deadR.key.toInt), .int .i64 (deadR.value.toInt), .int .i64 (deadR.seq.toInt)], cel b_1 84 [.int .i64 kz, .slice a1 n1 c1, .slice a2 n2 c2, .slice a3 n3 c3]], .p (.t (.t .h)) (.p (.t .h) (.p (.t (.t (.t (.t .h)))) (.p .h (.p (.t (.t (.t .h))) .nil)))), ⟨(os ++ [(Rec.mk false cq.key (doneC (chkB kz l1 l2 l3) l3 cq.value cq.key) 0)]), deadR, a_35, c_36, (run15_step (by assumption) (by omega) (by first | exact cstp_1 (by assumption) (by assumption) (by assumption) | exact cstp_a (by assumption) (by assumption) | exact cstp_b (by assumption) (by assumption) | exact cstp_c (by assumption) (by assumption) | exact cstp_d (by assumption) (by assumption) (by assumption))), (by rw [List.length_append, List.length_singleton]; omega), rfl⟩⟩
        · -- !cq.dead false
          have b37 : cq.dead = true := by simpa using b32
          refine wpS_skip ?_
          refine thenS_n ?_
          refine wpS_seq ?_
          refine wpS_region ?_
          refine s_y (v := .slice b1 os.length d1) (y_load1 rfl Try.isAgg69 (own1 (.t (.t (.t .h))) rfl)) rfl ?_
          refine s_y (v := .agg #[.bool (deadR.dead), .int .i64 (deadR.key.toInt), .int .i64 (deadR.value.toInt), .int .i64 (deadR.seq.toInt)]) (y_loadN (vs := [.bool (deadR.dead), .int .i64 (deadR.key.toInt), .int .i64 (deadR.value.toInt), .int .i64 (deadR.seq.toInt)]) rfl Try.isAgg23 Try.sizeOf23 (ownN .h rfl)) rfl ?_
          refine s_e rfl ?_
          refine e_bsliceL (e := 23) (m := [(0, .agg #[.bool (deadR.dead), .int .i64 (deadR.key.toInt), .int .i64 (deadR.value.toInt), .int .i64 (deadR.seq.toInt)])]) (l := [.bool (deadR.dead), .int .i64 (deadR.key.toInt), .int .i64 (deadR.value.toInt), .int .i64 (deadR.seq.toInt)]) (evc rfl evn) (fun w => by kernel_rfl) ?_
          intro b_38
          refine s_e rfl ?_
          refine e_appendL (enc := recV) (xs := (os : List Rec)) (ns := ([deadR] : List Rec)) (zs := (os ++ [deadR])) (bytes := 32) recV_len recV_one Try.underlying69 (i := Try.t23) rfl rfl rfl rfl rfl (by decide) rfl rfl (by first | rfl | omega) (by first | rfl | omega) (.t (.t (.t .h))) (fun w hs => celR .h w hs) (by first | rfl | simp) (by (try simp only [List.length_append, List.length_cons, List.length_nil] at *); omega) (by (try simp only [List.length_append, List.length_cons, List.length_nil] at *); omega) ?_
          intro a_39 c_40
          refine s_e0 ?_
          refine e_store (vs := [.slice a_39 ((os ++ [deadR]).length) c_40]) (l' := [.slice a_39 ((os ++ [deadR]).length) c_40]) rfl rfl rfl rfl Try.sizeOf69 (.t (.t (.t (.t .h)))) (Nat.le_of_ble_eq_true rfl) rfl ?_
          refine wpL_nil ?_
          refine thenS_n ?_
          refine wpS_seq ?_
          refine wpS_region ?_
          refine s_y (v := .agg #[.bool (deadR.dead), .int .i64 (deadR.key.toInt), .int .i64 (deadR.value.toInt), .int .i64 (deadR.seq.toInt)]) (y_call (args := #[]) (v := .agg #[.bool (deadR.dead), .int .i64 (deadR.key.toInt), .int .i64 (deadR.value.toInt), .int .i64 (deadR.seq.toInt)]) Try.call49 ev0 (fun w hs => dead_c w)) rfl ?_
          refine s_e0 ?_
          refine e_store (vs := [.bool (deadR.dead), .int .i64 (deadR.key.toInt), .int .i64 (deadR.value.toInt), .int .i64 (deadR.seq.toInt)]) (l' := [.bool (deadR.dead), .int .i64 (deadR.key.toInt), .int .i64 (deadR.value.toInt), .int .i64 (deadR.seq.toInt)]) rfl rfl rfl rfl Try.sizeOf23 (.t (.t (.t (.t (.t (.t .h)))))) (Nat.le_of_ble_eq_true rfl) rfl ?_
          refine wpL_nil ?_
          refine thenS_n ?_
          refine wpS_seq ?_
          refine wpS_region ?_
          refine s_y (v := .pointer (some ⟨b_8, 0, none⟩)) (y_fieldAddr (o' := 0) rfl Try.underlying23 rfl Try.sizeOf4 (by decide) rfl) rfl ?_
          refine s_y (v := .bool (((l.getD k default)).dead)) (y_load1 rfl Try.isAgg4 (own1 (.t (.t (.t (.t (.t .h))))) rfl)) rfl ?_
          refine s_y (v := .bool (!(((l.getD k default)).dead))) (y_not (b := ((l.getD k default)).dead) rfl) rfl ?_
          refine wpL_nil ?_
          refine thenS_n ?_
          refine wpS_cond_F (t := !(((l.getD k default)).dead)) rfl b13 ?_
          refine wpS_skip ?_
          refine blockS_n ?_
          exact rnd_n ⟨[osl a_39 c_40 ((os ++ [deadR]).length) 4 23 ((os ++ [deadR]).flatMap recV), cel b_5 69 [.slice a_39 (os ++ [deadR]).length c_40], cel b_3 23 [.bool false, .int .i64 0, .int .i64 0, .int .i64 0], cel b_2 23 [.bool (deadR.dead), .int .i64 (deadR.key.toInt), .int .i64 (deadR.value.toInt), .int .i64 (deadR.seq.toInt)], cel b_1 84 [.int .i64 kz, .slice a1 n1 c1, .slice a2 n2 c2, .slice a3 n3 c3]], .p (.t (.t .h)) (.p (.t .h) (.p (.t (.t (.t (.t .h)))) (.p .h (.p (.t (.t (.t .h))) .nil)))), ⟨(os ++ [deadR]), deadR, a_39, c_40, (run15_step (by assumption) (by omega) (by first | exact cstp_1 (by assumption) (by assumption) (by assumption) | exact cstp_a (by assumption) (by assumption) | exact cstp_b (by assumption) (by assumption) | exact cstp_c (by assumption) (by assumption) | exact cstp_d (by assumption) (by assumption) (by assumption))), (by rw [List.length_append, List.length_singleton]; omega), rfl⟩⟩
    · -- behind
      rintro d_7 A' ⟨os, cq, b1, d1, hf0_7, hf1_7, rfl⟩
      refine blockS_n ?_
      refine thenS_n ?_
      refine wpS_seq ?_
      refine wpS_seq ?_
      refine wpS_region ?_
      refine s_y (v := .pointer (some ⟨b_2, 0, none⟩)) (y_fieldAddr (o' := 0) rfl Try.underlying23 rfl Try.sizeOf4 (by decide) rfl) rfl ?_
      refine s_y (v := .bool (cq.dead)) (y_load1 rfl Try.isAgg4 (own1 (.t (.t (.t (.t .h)))) rfl)) rfl ?_
      refine wpL_nil ?_
      refine thenS_n ?_
      refine wpS_cond (t := cq.dead) rfl (fun b41 => ?_) (fun b41 => ?_)
      · -- cq.dead true
        refine wpS_seq ?_
        refine wpS_anyL [cel b_5 69 [.slice b1 os.length d1]] [] (by kernel_rfl) ?_
        refine anyS_take (i := 0) rfl (by kernel_rfl) (by kernel_rfl) (by kernel_rfl) (by kernel_rfl) (Yq.of (v := .slice b1 os.length d1) (y_load1 rfl Try.isAgg69 (own1 .h rfl)) rfl) (.p (.t (.t .h)) .nil) ?_
        refine anyS_take (i := 1) rfl (by kernel_rfl) (by kernel_rfl) (by kernel_rfl) (by kernel_rfl) (Yq.of (v := .agg #[.bool (deadR.dead), .int .i64 (deadR.key.toInt), .int .i64 (deadR.value.toInt), .int .i64 (deadR.seq.toInt)]) (y_call (args := #[]) (v := .agg #[.bool (deadR.dead), .int .i64 (deadR.key.toInt), .int .i64 (deadR.value.toInt), .int .i64 (deadR.seq.toInt)]) Try.call49 ev0 (fun w hs => dead_c w)) rfl) (.p (.t (.t .h)) .nil) ?_
        refine anyS_take (i := 2) rfl (by kernel_rfl) (by kernel_rfl) (by kernel_rfl) (by kernel_rfl) (Yq.of (v := .slice b1 os.length d1) (y_assign rfl) rfl) (.p (.t (.t .h)) .nil) ?_
        refine anyS_all (rs := [3]) (by kernel_rfl) (by simp) ?_
        intro i hi; obtain rfl := List.mem_singleton.1 hi; clear hi
        refine opS_0 rfl rfl ?_
        refine e_store (vs := [.bool (deadR.dead), .int .i64 (deadR.key.toInt), .int .i64 (deadR.value.toInt), .int .i64 (deadR.seq.toInt)]) (l' := [.bool (deadR.dead), .int .i64 (deadR.key.toInt), .int .i64 (deadR.value.toInt), .int .i64 (deadR.seq.toInt)]) rfl rfl rfl rfl Try.sizeOf23 (.t (.t (.t .h))) (Nat.le_of_ble_eq_true rfl) rfl ?_
        refine ⟨.inr (.p (.t (.t (.t .h))) .nil), ?_⟩
        refine anyS_done (by kernel_rfl) ?_
        refine thenS_n ?_
        refine wpS_ret ?_
        refine thenS_r ?_
        refine scopeS_r ?_
        refine fin2 (M := [cel b_3 23 [.bool (deadR.dead), .int .i64 (deadR.key.toInt), .int .i64 (deadR.value.toInt), .int .i64 (deadR.seq.toInt)], osl b1 d1 os.length 4 23 (os.flatMap recV)]) (.inr rfl) (.p (.t .h) (.p .h (.p .h .nil))) Try.results91 (rvT (v := .slice b1 os.length d1) rfl) (rvC (vs := [.bool (deadR.dead), .int .i64 (deadR.key.toInt), .int .i64 (deadR.value.toInt), .int .i64 (deadR.seq.toInt)]) rfl Try.isAgg23 Try.sizeOf23 (fun w hs => ownN .h rfl w hs)) ?_
        have e0 := by have h0 := (by assumption : (os, cq) = _); rw [List.take_of_length_le (by omega)] at h0; exact h0
        have e1 : stepO (chkB kz l1 l2 l3) l2 l3 cr l = os := by unfold stepO; rw [if_pos hok, ← e0]
        have e2 : stepC (chkB kz l1 l2 l3) l2 l3 cr l = deadR := by unfold stepC normC; rw [if_pos hok, ← e0]; first | rw [if_pos (show cq.dead = false by assumption)] | (rw [if_neg (show ¬ cq.dead = false by rw [(by assumption : cq.dead = true)]; decide)]; done) | (rw [if_neg (show ¬ cq.dead = false by rw [(by assumption : cq.dead = true)]; decide)]; rfl)
        exact fun w' hs => ⟨(b1, d1), by first | (rw [e1, e2]; done) | (rw [e1, e2]; rfl), by rw [e1]; exact hs.ent (.p (.t .h) .nil), trivial⟩
      · -- cq.dead false
        refine wpS_skip ?_
        refine thenS_n ?_
        refine wpS_seq ?_
        refine wpS_anyL [cel b_5 69 [.slice b1 os.length d1], cel b_2 23 [.bool (cq.dead), .int .i64 (cq.key.toInt), .int .i64 (cq.value.toInt), .int .i64 (cq.seq.toInt)]] [] (by kernel_rfl) ?_
        refine anyS_take (i := 0) rfl (by kernel_rfl) (by kernel_rfl) (by kernel_rfl) (by kernel_rfl) (Yq.of (v := .slice b1 os.length d1) (y_load1 rfl Try.isAgg69 (own1 .h rfl)) rfl) (.p (.t (.t .h)) (.p (.t (.t (.t .h))) .nil)) ?_
        refine anyS_take (i := 1) rfl (by kernel_rfl) (by kernel_rfl) (by kernel_rfl) (by kernel_rfl) (Yq.of (v := .pointer (some ⟨b_2, 1, none⟩)) (y_fieldAddr (o' := 1) rfl Try.underlying23 rfl Try.sizeOf2 (by decide) rfl) rfl) (.p (.t (.t .h)) (.p (.t (.t (.t .h))) .nil)) ?_
        refine anyS_take (i := 2) rfl (by kernel_rfl) (by kernel_rfl) (by kernel_rfl) (by kernel_rfl) (Yq.of (v := .int .i64 (cq.key.toInt)) (y_load1 rfl Try.isAgg2 (own1 (.t .h) rfl)) rfl) (.p (.t (.t .h)) (.p (.t (.t (.t .h))) .nil)) ?_
        refine anyS_take (i := 3) rfl (by kernel_rfl) (by kernel_rfl) (by kernel_rfl) (by kernel_rfl) (Yq.of (v := .pointer (some ⟨b_2, 2, none⟩)) (y_fieldAddr (o' := 2) rfl Try.underlying23 rfl Try.sizeOf2 (by decide) rfl) rfl) (.p (.t (.t .h)) (.p (.t (.t (.t .h))) .nil)) ?_
        refine anyS_take (i := 4) rfl (by kernel_rfl) (by kernel_rfl) (by kernel_rfl) (by kernel_rfl) (Yq.of (v := .int .i64 (cq.value.toInt)) (y_load1 rfl Try.isAgg2 (own1 (.t .h) rfl)) rfl) (.p (.t (.t .h)) (.p (.t (.t (.t .h))) .nil)) ?_
        refine anyS_take (i := 5) rfl (by kernel_rfl) (by kernel_rfl) (by kernel_rfl) (by kernel_rfl) (Yq.of (v := .agg #[.bool false, .int .i64 (cq.key.toInt), .int .i64 (cq.value.toInt), .int .i64 0]) (y_buildL (m := [(1, .int .i64 (cq.key.toInt)), (2, .int .i64 (cq.value.toInt))]) (vs := #[.bool false, .int .i64 (cq.key.toInt), .int .i64 (cq.value.toInt), .int .i64 0]) (evc rfl (evc rfl evn)) (fun w => by kernel_rfl)) rfl) (.p (.t (.t .h)) (.p (.t (.t (.t .h))) .nil)) ?_
        refine anyS_take (i := 6) rfl (by kernel_rfl) (by kernel_rfl) (by kernel_rfl) (by kernel_rfl) (Yq.of (v := .slice b1 os.length d1) (y_assign rfl) rfl) (.p (.t (.t .h)) (.p (.t (.t (.t .h))) .nil)) ?_
        refine anyS_all (rs := [7]) (by kernel_rfl) (by simp) ?_
        intro i hi; obtain rfl := List.mem_singleton.1 hi; clear hi
        refine opS_0 rfl rfl ?_
        refine e_store (vs := [.bool false, .int .i64 (cq.key.toInt), .int .i64 (cq.value.toInt), .int .i64 0]) (l' := [.bool false, .int .i64 (cq.key.toInt), .int .i64 (cq.value.toInt), .int .i64 0]) rfl rfl rfl rfl Try.sizeOf23 (.t (.t (.t .h))) (Nat.le_of_ble_eq_true rfl) rfl ?_
        refine ⟨.inr (.p (.t (.t (.t .h))) (.p (.t (.t (.t .h))) .nil)), ?_⟩
        refine anyS_done (by kernel_rfl) ?_
        refine thenS_n ?_
        refine wpS_ret ?_
        refine scopeS_r ?_
        refine fin2 (M := [cel b_3 23 [.bool false, .int .i64 (cq.key.toInt), .int .i64 (cq.value.toInt), .int .i64 0], osl b1 d1 os.length 4 23 (os.flatMap recV)]) (.inr rfl) (.p (.t .h) (.p .h (.p .h .nil))) Try.results91 (rvT (v := .slice b1 os.length d1) rfl) (rvC (vs := [.bool false, .int .i64 (cq.key.toInt), .int .i64 (cq.value.toInt), .int .i64 0]) rfl Try.isAgg23 Try.sizeOf23 (fun w hs => ownN .h rfl w hs)) ?_
        have e0 := by have h0 := (by assumption : (os, cq) = _); rw [List.take_of_length_le (by omega)] at h0; exact h0
        have e1 : stepO (chkB kz l1 l2 l3) l2 l3 cr l = os := by unfold stepO; rw [if_pos hok, ← e0]
        have e2 : stepC (chkB kz l1 l2 l3) l2 l3 cr l = (Rec.mk false cq.key cq.value 0) := by unfold stepC normC; rw [if_pos hok, ← e0]; first | rw [if_pos (show cq.dead = false by assumption)] | (rw [if_neg (show ¬ cq.dead = false by rw [(by assumption : cq.dead = true)]; decide)]; done) | (rw [if_neg (show ¬ cq.dead = false by rw [(by assumption : cq.dead = true)]; decide)]; rfl)
        exact fun w' hs => ⟨(b1, d1), by first | (rw [e1, e2]; done) | (rw [e1, e2]; rfl), by rw [e1]; exact hs.ent (.p (.t .h) .nil), trivial⟩
    · -- left
      intro _ _ _ _ _ h; exact h.elim

theorem one_ok : chkB 1 [] [Opc.mk 2 0 0 1 0 0] [Opc.mk 3 0 0 1 0 0] = true := by decide +kernel
theorem one_f (u v : Int64) : doneC true [Opc.mk 2 0 0 1 0 0] u v = u + v := rfl
theorem one_g (u v : Int64) : doneC true [Opc.mk 3 0 0 1 0 0] u v = u - v := rfl
theorem sum_ok : chkB 1 [] [Opc.mk 2 0 0 1 0 0] [] = true := by decide +kernel
theorem sum_g (u v : Int64) : doneC true [] u v = u := rfl

theorem sum_c (w : World) : Makes Try.prog 94 #[] w [] (X := Nat) (fun b : Nat => .agg #[.int .i64 1, .slice none 0 0, .slice (some ⟨b, 0, none⟩) 1 1, .slice none 0 0]) (fun b : Nat => [cel b 86 [.int .i64 2, .int .i64 0, .int .i64 0, .int .i64 1, .int .i64 0, .int .i64 0]]) (fun _ => True) := by
  refine calls_S (n := 4) (σ0 := fr0) (D := []) (A := []) Try.func94 rfl Try.ntmps94 rfl (a0_fr) (SH.start w) ?_
  refine wpS_seq ?_
  refine wpS_region ?_
  refine s_e rfl ?_
  refine e_alloc (l := [.int .i64 0, .slice none 0 0, .slice none 0 0, .slice none 0 0]) Try.zeroValue84 rfl ?_
  intro b_1
  refine wpL_nil ?_
  refine thenS_n ?_
  refine wpS_seq ?_
  refine wpS_region ?_
  refine s_y (v := .agg #[.int .i64 2, .int .i64 0, .int .i64 0, .int .i64 1, .int .i64 0, .int .i64 0]) (y_buildL (m := [(0, .int .i64 2), (3, .int .i64 1)]) (vs := #[.int .i64 2, .int .i64 0, .int .i64 0, .int .i64 1, .int .i64 0, .int .i64 0]) (evc rfl (evc rfl evn)) (fun w => by kernel_rfl)) rfl ?_
  refine s_e rfl ?_
  refine e_bsliceL (e := 86) (m := [(0, .agg #[.int .i64 2, .int .i64 0, .int .i64 0, .int .i64 1, .int .i64 0, .int .i64 0])]) (l := [.int .i64 2, .int .i64 0, .int .i64 0, .int .i64 1, .int .i64 0, .int .i64 0]) (evc rfl evn) (fun w => by kernel_rfl) ?_
  intro b_2
  refine s_y (v := .agg #[.int .i64 1, .slice none 0 0, .slice (some ⟨b_2, 0, none⟩) 1 1, .slice none 0 0]) (y_buildL (m := [(0, .int .i64 1), (2, .slice (some ⟨b_2, 0, none⟩) 1 1)]) (vs := #[.int .i64 1, .slice none 0 0, .slice (some ⟨b_2, 0, none⟩) 1 1, .slice none 0 0]) (evc rfl (evc rfl evn)) (fun w => by kernel_rfl)) rfl ?_
  refine s_e0 ?_
  refine e_store (vs := [.int .i64 1, .slice none 0 0, .slice (some ⟨b_2, 0, none⟩) 1 1, .slice none 0 0]) (l' := [.int .i64 1, .slice none 0 0, .slice (some ⟨b_2, 0, none⟩) 1 1, .slice none 0 0]) rfl rfl rfl rfl Try.sizeOf84 (.t .h) (Nat.le_of_ble_eq_true rfl) rfl ?_
  refine wpL_nil ?_
  refine thenS_n ?_
  refine wpS_ret ?_
  refine fin1' (M := [cel b_1 84 [.int .i64 1, .slice none 0 0, .slice (some ⟨b_2, 0, none⟩) 1 1, .slice none 0 0], cel b_2 86 [.int .i64 2, .int .i64 0, .int .i64 0, .int .i64 1, .int .i64 0, .int .i64 0]]) (.inr rfl) (.p .h (.p .h .nil)) Try.results94 (rvC (vs := [.int .i64 1, .slice none 0 0, .slice (some ⟨b_2, 0, none⟩) 1 1, .slice none 0 0]) rfl Try.isAgg84 Try.sizeOf84 (fun w hs => ownN .h rfl w hs)) ?_
  exact fun w' hs => ⟨b_2, rfl, hs.ent (.p (.t .h) .nil), trivial⟩

theorem awake15_c (w : World) : Pure Try.prog 90 #[] w (.bool true) := by
  refine calls_S (n := 33) (σ0 := fr0) (D := []) (A := []) Try.func90 rfl Try.ntmps90 rfl (a0_fr) (SH.start w) ?_
  refine wpS_seq ?_
  refine wpS_region ?_
  refine s_y (v := .bool false) (y_assign rfl) rfl ?_
  refine wpL_nil ?_
  refine thenS_n ?_
  refine wpS_seq ?_
  refine wpS_region ?_
  refine s_e rfl ?_
  refine e_call (f := 94) (args := #[]) (X := Nat) (A := []) (M := []) (V := fun b : Nat => .agg #[.int .i64 1, .slice none 0 0, .slice (some ⟨b, 0, none⟩) 1 1, .slice none 0 0]) (A' := fun b : Nat => [cel b 86 [.int .i64 2, .int .i64 0, .int .i64 0, .int .i64 1, .int .i64 0, .int .i64 0]]) (C := fun _ => True) Try.call94 ev0 (.nil) (fun w hs => sum_c w) ?_
  rintro b_1 -
  refine s_y (v := .agg #[.bool true, .int .i64 0, .int .i64 0, .int .i64 0]) (y_buildL (m := [(0, .bool true)]) (vs := #[.bool true, .int .i64 0, .int .i64 0, .int .i64 0]) (evc rfl evn) (fun w => by kernel_rfl)) rfl ?_
  refine s_y (v := .agg #[.bool false, .int .i64 1, .int .i64 5, .int .i64 0]) (y_buildL (m := [(1, .int .i64 1), (2, .int .i64 5)]) (vs := #[.bool false, .int .i64 1, .int .i64 5, .int .i64 0]) (evc rfl (evc rfl evn)) (fun w => by kernel_rfl)) rfl ?_
  refine s_y (v := .agg #[.bool false, .int .i64 1, .int .i64 6, .int .i64 0]) (y_buildL (m := [(1, .int .i64 1), (2, .int .i64 6)]) (vs := #[.bool false, .int .i64 1, .int .i64 6, .int .i64 0]) (evc rfl (evc rfl evn)) (fun w => by kernel_rfl)) rfl ?_
  refine s_y (v := .agg #[.bool true, .int .i64 0, .int .i64 0, .int .i64 0]) (y_buildL (m := [(0, .bool true)]) (vs := #[.bool true, .int .i64 0, .int .i64 0, .int .i64 0]) (evc rfl evn) (fun w => by kernel_rfl)) rfl ?_
  refine s_e rfl ?_
  refine e_bsliceL (e := 23) (m := [(0, .agg #[.bool false, .int .i64 1, .int .i64 5, .int .i64 0]), (1, .agg #[.bool false, .int .i64 1, .int .i64 6, .int .i64 0]), (2, .agg #[.bool true, .int .i64 0, .int .i64 0, .int .i64 0])]) (l := [.bool false, .int .i64 1, .int .i64 5, .int .i64 0, .bool false, .int .i64 1, .int .i64 6, .int .i64 0, .bool true, .int .i64 0, .int .i64 0, .int .i64 0]) (evc rfl (evc rfl (evc rfl evn))) (fun w => by kernel_rfl) ?_
  intro b_2
  refine s_e rfl ?_
  refine e_call (f := 91) (args := #[.agg #[.int .i64 1, .slice none 0 0, .slice (some ⟨b_1, 0, none⟩) 1 1, .slice none 0 0], .agg #[.bool true, .int .i64 0, .int .i64 0, .int .i64 0], .slice (some ⟨b_2, 0, none⟩) 3 3]) (X := Option Addr × Nat) (A := []) (M := [cel b_2 23 [.bool false, .int .i64 1, .int .i64 5, .int .i64 0, .bool false, .int .i64 1, .int .i64 6, .int .i64 0, .bool true, .int .i64 0, .int .i64 0, .int .i64 0], cel b_1 86 [.int .i64 2, .int .i64 0, .int .i64 0, .int .i64 1, .int .i64 0, .int .i64 0]]) (V := fun x => .tuple #[slV (stepO (chkB 1 ([]) ([(Opc.mk 2 0 0 1 0 0)]) ([])) ([(Opc.mk 2 0 0 1 0 0)]) ([]) (Rec.mk true 0 0 0) ([(Rec.mk false 1 5 0), (Rec.mk false 1 6 0), (Rec.mk true 0 0 0)])) x, .agg #[.bool ((stepC (chkB 1 ([]) ([(Opc.mk 2 0 0 1 0 0)]) ([])) ([(Opc.mk 2 0 0 1 0 0)]) ([]) (Rec.mk true 0 0 0) ([(Rec.mk false 1 5 0), (Rec.mk false 1 6 0), (Rec.mk true 0 0 0)])).dead), .int .i64 (((stepC (chkB 1 ([]) ([(Opc.mk 2 0 0 1 0 0)]) ([])) ([(Opc.mk 2 0 0 1 0 0)]) ([]) (Rec.mk true 0 0 0) ([(Rec.mk false 1 5 0), (Rec.mk false 1 6 0), (Rec.mk true 0 0 0)])).key).toInt), .int .i64 (((stepC (chkB 1 ([]) ([(Opc.mk 2 0 0 1 0 0)]) ([])) ([(Opc.mk 2 0 0 1 0 0)]) ([]) (Rec.mk true 0 0 0) ([(Rec.mk false 1 5 0), (Rec.mk false 1 6 0), (Rec.mk true 0 0 0)])).value).toInt), .int .i64 (((stepC (chkB 1 ([]) ([(Opc.mk 2 0 0 1 0 0)]) ([])) ([(Opc.mk 2 0 0 1 0 0)]) ([]) (Rec.mk true 0 0 0) ([(Rec.mk false 1 5 0), (Rec.mk false 1 6 0), (Rec.mk true 0 0 0)])).seq).toInt)]]) (A' := fun x => [slR recV 4 23 (stepO (chkB 1 ([]) ([(Opc.mk 2 0 0 1 0 0)]) ([])) ([(Opc.mk 2 0 0 1 0 0)]) ([]) (Rec.mk true 0 0 0) ([(Rec.mk false 1 5 0), (Rec.mk false 1 6 0), (Rec.mk true 0 0 0)])) x]) (C := fun _ => True) Try.call91 (ev3 rfl rfl rfl) (.p .h (.p .h .nil)) (fun w hs => cstep_c 1 none (some ⟨b_1, 0, none⟩) none 0 0 1 1 0 0 ([]) ([(Opc.mk 2 0 0 1 0 0)]) ([]) (Rec.mk true 0 0 0) (some ⟨b_2, 0, none⟩) 3 3 ([(Rec.mk false 1 5 0), (Rec.mk false 1 6 0), (Rec.mk true 0 0 0)]) w (by first | rfl | (simp only [List.length_set]; done) | omega) (Rds.nil _ _) (by omega) (by first | rfl | (simp only [List.length_set]; done) | omega) (celR (.t .h) w hs) (by omega) (by first | rfl | (simp only [List.length_set]; done) | omega) (Rds.nil _ _) (by omega) rfl (celR .h w hs) (by omega)) ?_
  rintro ⟨a_3, c_4⟩ -
  have hso6 : (stepO (chkB 1 ([]) ([(Opc.mk 2 0 0 1 0 0)]) ([])) ([(Opc.mk 2 0 0 1 0 0)]) ([]) (Rec.mk true 0 0 0) ([(Rec.mk false 1 5 0), (Rec.mk false 1 6 0), (Rec.mk true 0 0 0)])).length = ([(Rec.mk false 1 5 0), (Rec.mk false 1 6 0), (Rec.mk true 0 0 0)]).length := stepO_len sum_ok
  try simp only [List.length_cons, List.length_nil, Nat.zero_add] at hso6
  refine s_y (v := .tuple #[.slice a_3 ((stepO (chkB 1 ([]) ([(Opc.mk 2 0 0 1 0 0)]) ([])) ([(Opc.mk 2 0 0 1 0 0)]) ([]) (Rec.mk true 0 0 0) ([(Rec.mk false 1 5 0), (Rec.mk false 1 6 0), (Rec.mk true 0 0 0)])).length) c_4, .agg #[.bool ((stepC (chkB 1 ([]) ([(Opc.mk 2 0 0 1 0 0)]) ([])) ([(Opc.mk 2 0 0 1 0 0)]) ([]) (Rec.mk true 0 0 0) ([(Rec.mk false 1 5 0), (Rec.mk false 1 6 0), (Rec.mk true 0 0 0)])).dead), .int .i64 (((stepC (chkB 1 ([]) ([(Opc.mk 2 0 0 1 0 0)]) ([])) ([(Opc.mk 2 0 0 1 0 0)]) ([]) (Rec.mk true 0 0 0) ([(Rec.mk false 1 5 0), (Rec.mk false 1 6 0), (Rec.mk true 0 0 0)])).key).toInt), .int .i64 (((stepC (chkB 1 ([]) ([(Opc.mk 2 0 0 1 0 0)]) ([])) ([(Opc.mk 2 0 0 1 0 0)]) ([]) (Rec.mk true 0 0 0) ([(Rec.mk false 1 5 0), (Rec.mk false 1 6 0), (Rec.mk true 0 0 0)])).value).toInt), .int .i64 (((stepC (chkB 1 ([]) ([(Opc.mk 2 0 0 1 0 0)]) ([])) ([(Opc.mk 2 0 0 1 0 0)]) ([]) (Rec.mk true 0 0 0) ([(Rec.mk false 1 5 0), (Rec.mk false 1 6 0), (Rec.mk true 0 0 0)])).seq).toInt)]]) (y_move rfl) rfl ?_
  refine s_y (v := .slice a_3 ((stepO (chkB 1 ([]) ([(Opc.mk 2 0 0 1 0 0)]) ([])) ([(Opc.mk 2 0 0 1 0 0)]) ([]) (Rec.mk true 0 0 0) ([(Rec.mk false 1 5 0), (Rec.mk false 1 6 0), (Rec.mk true 0 0 0)])).length) c_4) (y_extract (v := .slice a_3 ((stepO (chkB 1 ([]) ([(Opc.mk 2 0 0 1 0 0)]) ([])) ([(Opc.mk 2 0 0 1 0 0)]) ([]) (Rec.mk true 0 0 0) ([(Rec.mk false 1 5 0), (Rec.mk false 1 6 0), (Rec.mk true 0 0 0)])).length) c_4) rfl rfl) rfl ?_
  refine s_y (v := .agg #[.bool ((stepC (chkB 1 ([]) ([(Opc.mk 2 0 0 1 0 0)]) ([])) ([(Opc.mk 2 0 0 1 0 0)]) ([]) (Rec.mk true 0 0 0) ([(Rec.mk false 1 5 0), (Rec.mk false 1 6 0), (Rec.mk true 0 0 0)])).dead), .int .i64 (((stepC (chkB 1 ([]) ([(Opc.mk 2 0 0 1 0 0)]) ([])) ([(Opc.mk 2 0 0 1 0 0)]) ([]) (Rec.mk true 0 0 0) ([(Rec.mk false 1 5 0), (Rec.mk false 1 6 0), (Rec.mk true 0 0 0)])).key).toInt), .int .i64 (((stepC (chkB 1 ([]) ([(Opc.mk 2 0 0 1 0 0)]) ([])) ([(Opc.mk 2 0 0 1 0 0)]) ([]) (Rec.mk true 0 0 0) ([(Rec.mk false 1 5 0), (Rec.mk false 1 6 0), (Rec.mk true 0 0 0)])).value).toInt), .int .i64 (((stepC (chkB 1 ([]) ([(Opc.mk 2 0 0 1 0 0)]) ([])) ([(Opc.mk 2 0 0 1 0 0)]) ([]) (Rec.mk true 0 0 0) ([(Rec.mk false 1 5 0), (Rec.mk false 1 6 0), (Rec.mk true 0 0 0)])).seq).toInt)]) (y_extract (v := .agg #[.bool ((stepC (chkB 1 ([]) ([(Opc.mk 2 0 0 1 0 0)]) ([])) ([(Opc.mk 2 0 0 1 0 0)]) ([]) (Rec.mk true 0 0 0) ([(Rec.mk false 1 5 0), (Rec.mk false 1 6 0), (Rec.mk true 0 0 0)])).dead), .int .i64 (((stepC (chkB 1 ([]) ([(Opc.mk 2 0 0 1 0 0)]) ([])) ([(Opc.mk 2 0 0 1 0 0)]) ([]) (Rec.mk true 0 0 0) ([(Rec.mk false 1 5 0), (Rec.mk false 1 6 0), (Rec.mk true 0 0 0)])).key).toInt), .int .i64 (((stepC (chkB 1 ([]) ([(Opc.mk 2 0 0 1 0 0)]) ([])) ([(Opc.mk 2 0 0 1 0 0)]) ([]) (Rec.mk true 0 0 0) ([(Rec.mk false 1 5 0), (Rec.mk false 1 6 0), (Rec.mk true 0 0 0)])).value).toInt), .int .i64 (((stepC (chkB 1 ([]) ([(Opc.mk 2 0 0 1 0 0)]) ([])) ([(Opc.mk 2 0 0 1 0 0)]) ([]) (Rec.mk true 0 0 0) ([(Rec.mk false 1 5 0), (Rec.mk false 1 6 0), (Rec.mk true 0 0 0)])).seq).toInt)]) rfl rfl) rfl ?_
  refine s_e rfl ?_
  refine e_alloc (l := [.bool false, .int .i64 0, .int .i64 0, .int .i64 0]) Try.zeroValue23 rfl ?_
  intro b_7
  refine s_y (v := .slice a_3 ((stepO (chkB 1 ([]) ([(Opc.mk 2 0 0 1 0 0)]) ([])) ([(Opc.mk 2 0 0 1 0 0)]) ([]) (Rec.mk true 0 0 0) ([(Rec.mk false 1 5 0), (Rec.mk false 1 6 0), (Rec.mk true 0 0 0)])).length) c_4) (y_assign rfl) rfl ?_
  refine s_e0 ?_
  refine e_store (vs := [.bool ((stepC (chkB 1 ([]) ([(Opc.mk 2 0 0 1 0 0)]) ([])) ([(Opc.mk 2 0 0 1 0 0)]) ([]) (Rec.mk true 0 0 0) ([(Rec.mk false 1 5 0), (Rec.mk false 1 6 0), (Rec.mk true 0 0 0)])).dead), .int .i64 (((stepC (chkB 1 ([]) ([(Opc.mk 2 0 0 1 0 0)]) ([])) ([(Opc.mk 2 0 0 1 0 0)]) ([]) (Rec.mk true 0 0 0) ([(Rec.mk false 1 5 0), (Rec.mk false 1 6 0), (Rec.mk true 0 0 0)])).key).toInt), .int .i64 (((stepC (chkB 1 ([]) ([(Opc.mk 2 0 0 1 0 0)]) ([])) ([(Opc.mk 2 0 0 1 0 0)]) ([]) (Rec.mk true 0 0 0) ([(Rec.mk false 1 5 0), (Rec.mk false 1 6 0), (Rec.mk true 0 0 0)])).value).toInt), .int .i64 (((stepC (chkB 1 ([]) ([(Opc.mk 2 0 0 1 0 0)]) ([])) ([(Opc.mk 2 0 0 1 0 0)]) ([]) (Rec.mk true 0 0 0) ([(Rec.mk false 1 5 0), (Rec.mk false 1 6 0), (Rec.mk true 0 0 0)])).seq).toInt)]) (l' := [.bool ((stepC (chkB 1 ([]) ([(Opc.mk 2 0 0 1 0 0)]) ([])) ([(Opc.mk 2 0 0 1 0 0)]) ([]) (Rec.mk true 0 0 0) ([(Rec.mk false 1 5 0), (Rec.mk false 1 6 0), (Rec.mk true 0 0 0)])).dead), .int .i64 (((stepC (chkB 1 ([]) ([(Opc.mk 2 0 0 1 0 0)]) ([])) ([(Opc.mk 2 0 0 1 0 0)]) ([]) (Rec.mk true 0 0 0) ([(Rec.mk false 1 5 0), (Rec.mk false 1 6 0), (Rec.mk true 0 0 0)])).key).toInt), .int .i64 (((stepC (chkB 1 ([]) ([(Opc.mk 2 0 0 1 0 0)]) ([])) ([(Opc.mk 2 0 0 1 0 0)]) ([]) (Rec.mk true 0 0 0) ([(Rec.mk false 1 5 0), (Rec.mk false 1 6 0), (Rec.mk true 0 0 0)])).value).toInt), .int .i64 (((stepC (chkB 1 ([]) ([(Opc.mk 2 0 0 1 0 0)]) ([])) ([(Opc.mk 2 0 0 1 0 0)]) ([]) (Rec.mk true 0 0 0) ([(Rec.mk false 1 5 0), (Rec.mk false 1 6 0), (Rec.mk true 0 0 0)])).seq).toInt)]) rfl rfl rfl rfl Try.sizeOf23 .h (Nat.le_of_ble_eq_true rfl) rfl ?_
  refine wpL_nil ?_
  refine thenS_n ?_
  refine wpS_seq ?_
  refine wpS_region ?_
  refine s_y (v := .slice a_3 ((stepO (chkB 1 ([]) ([(Opc.mk 2 0 0 1 0 0)]) ([])) ([(Opc.mk 2 0 0 1 0 0)]) ([]) (Rec.mk true 0 0 0) ([(Rec.mk false 1 5 0), (Rec.mk false 1 6 0), (Rec.mk true 0 0 0)])).length) c_4) (y_move rfl) rfl ?_
  refine s_y (v := .int .i64 ((((stepO (chkB 1 ([]) ([(Opc.mk 2 0 0 1 0 0)]) ([])) ([(Opc.mk 2 0 0 1 0 0)]) ([]) (Rec.mk true 0 0 0) ([(Rec.mk false 1 5 0), (Rec.mk false 1 6 0), (Rec.mk true 0 0 0)])).length : Nat) : Int))) (y_len (ty' := 0) (at_ := #[]) rfl Try.underlying69) rfl ?_
  refine s_y (v := .bool (decide (((stepO (chkB 1 ([]) ([(Opc.mk 2 0 0 1 0 0)]) ([])) ([(Opc.mk 2 0 0 1 0 0)]) ([]) (Rec.mk true 0 0 0) ([(Rec.mk false 1 5 0), (Rec.mk false 1 6 0), (Rec.mk true 0 0 0)])).length : Nat) = 3))) (y_eql (a := (((stepO (chkB 1 ([]) ([(Opc.mk 2 0 0 1 0 0)]) ([])) ([(Opc.mk 2 0 0 1 0 0)]) ([]) (Rec.mk true 0 0 0) ([(Rec.mk false 1 5 0), (Rec.mk false 1 6 0), (Rec.mk true 0 0 0)])).length : Nat) : Int)) (b := 3) (c := decide (((stepO (chkB 1 ([]) ([(Opc.mk 2 0 0 1 0 0)]) ([])) ([(Opc.mk 2 0 0 1 0 0)]) ([]) (Rec.mk true 0 0 0) ([(Rec.mk false 1 5 0), (Rec.mk false 1 6 0), (Rec.mk true 0 0 0)])).length : Nat) = 3)) rfl rfl (decide_eq_decide.2 (by omega))) rfl ?_
  refine s_y (v := .bool (decide (((stepO (chkB 1 ([]) ([(Opc.mk 2 0 0 1 0 0)]) ([])) ([(Opc.mk 2 0 0 1 0 0)]) ([]) (Rec.mk true 0 0 0) ([(Rec.mk false 1 5 0), (Rec.mk false 1 6 0), (Rec.mk true 0 0 0)])).length : Nat) = 3))) (y_move rfl) rfl ?_
  refine s_gy (y_fieldAddr (o' := 0) rfl Try.underlying23 rfl Try.sizeOf4 (by decide) rfl) rfl rfl rfl rfl (b' := decide (((stepO (chkB 1 ([]) ([(Opc.mk 2 0 0 1 0 0)]) ([])) ([(Opc.mk 2 0 0 1 0 0)]) ([]) (Rec.mk true 0 0 0) ([(Rec.mk false 1 5 0), (Rec.mk false 1 6 0), (Rec.mk true 0 0 0)])).length : Nat) = 3)) rfl (by decide +kernel) ?_
  refine s_gy (y_load1 rfl Try.isAgg4 (own1 .h rfl)) rfl rfl rfl rfl (b' := decide (((stepO (chkB 1 ([]) ([(Opc.mk 2 0 0 1 0 0)]) ([])) ([(Opc.mk 2 0 0 1 0 0)]) ([]) (Rec.mk true 0 0 0) ([(Rec.mk false 1 5 0), (Rec.mk false 1 6 0), (Rec.mk true 0 0 0)])).length : Nat) = 3)) rfl (by decide +kernel) ?_
  refine s_y (v := .bool ((stepC (chkB 1 ([]) ([(Opc.mk 2 0 0 1 0 0)]) ([])) ([(Opc.mk 2 0 0 1 0 0)]) ([]) (Rec.mk true 0 0 0) ([(Rec.mk false 1 5 0), (Rec.mk false 1 6 0), (Rec.mk true 0 0 0)])).dead)) (y_pickT (b := decide (((stepO (chkB 1 ([]) ([(Opc.mk 2 0 0 1 0 0)]) ([])) ([(Opc.mk 2 0 0 1 0 0)]) ([]) (Rec.mk true 0 0 0) ([(Rec.mk false 1 5 0), (Rec.mk false 1 6 0), (Rec.mk true 0 0 0)])).length : Nat) = 3)) (v := .bool ((stepC (chkB 1 ([]) ([(Opc.mk 2 0 0 1 0 0)]) ([])) ([(Opc.mk 2 0 0 1 0 0)]) ([]) (Rec.mk true 0 0 0) ([(Rec.mk false 1 5 0), (Rec.mk false 1 6 0), (Rec.mk true 0 0 0)])).dead)) rfl (by decide +kernel) rfl) rfl ?_
  refine s_y (v := .bool ((stepC (chkB 1 ([]) ([(Opc.mk 2 0 0 1 0 0)]) ([])) ([(Opc.mk 2 0 0 1 0 0)]) ([]) (Rec.mk true 0 0 0) ([(Rec.mk false 1 5 0), (Rec.mk false 1 6 0), (Rec.mk true 0 0 0)])).dead)) (y_move rfl) rfl ?_
  refine s_gy (y_move rfl) rfl rfl rfl rfl (b' := (stepC (chkB 1 ([]) ([(Opc.mk 2 0 0 1 0 0)]) ([])) ([(Opc.mk 2 0 0 1 0 0)]) ([]) (Rec.mk true 0 0 0) ([(Rec.mk false 1 5 0), (Rec.mk false 1 6 0), (Rec.mk true 0 0 0)])).dead) rfl (by decide +kernel) ?_
  refine s_gy (y_idx (o := 2 * 4) rfl rfl Try.underlying69 Try.sizeOf23 (oslR (.t .h)) (fl_len recV_len _) (by decide) (by omega) (by omega) (by omega)) rfl rfl rfl rfl (b' := (stepC (chkB 1 ([]) ([(Opc.mk 2 0 0 1 0 0)]) ([])) ([(Opc.mk 2 0 0 1 0 0)]) ([]) (Rec.mk true 0 0 0) ([(Rec.mk false 1 5 0), (Rec.mk false 1 6 0), (Rec.mk true 0 0 0)])).dead) rfl (by decide +kernel) ?_
  refine s_gy (y_loadN (vs := recV ((stepO (chkB 1 ([]) ([(Opc.mk 2 0 0 1 0 0)]) ([])) ([(Opc.mk 2 0 0 1 0 0)]) ([]) (Rec.mk true 0 0 0) ([(Rec.mk false 1 5 0), (Rec.mk false 1 6 0), (Rec.mk true 0 0 0)])).getD 2 default)) rfl Try.isAgg23 Try.sizeOf23 (rdN (oslR (.t .h)) (fl_getN recV_len (stepO (chkB 1 ([]) ([(Opc.mk 2 0 0 1 0 0)]) ([])) ([(Opc.mk 2 0 0 1 0 0)]) ([]) (Rec.mk true 0 0 0) ([(Rec.mk false 1 5 0), (Rec.mk false 1 6 0), (Rec.mk true 0 0 0)])) 2 (by first | omega | (simp only [List.length_set, List.length_take, List.length_drop]; done) | (simp only [List.length_set, List.length_take, List.length_drop]; omega))))) rfl rfl rfl rfl (b' := (stepC (chkB 1 ([]) ([(Opc.mk 2 0 0 1 0 0)]) ([])) ([(Opc.mk 2 0 0 1 0 0)]) ([]) (Rec.mk true 0 0 0) ([(Rec.mk false 1 5 0), (Rec.mk false 1 6 0), (Rec.mk true 0 0 0)])).dead) rfl (by decide +kernel) ?_
  refine s_gy (y_buildL (m := [(1, .int .i64 1), (2, .int .i64 11)]) (vs := #[.bool false, .int .i64 1, .int .i64 11, .int .i64 0]) (evc rfl (evc rfl evn)) (fun w => by kernel_rfl)) rfl rfl rfl rfl (b' := (stepC (chkB 1 ([]) ([(Opc.mk 2 0 0 1 0 0)]) ([])) ([(Opc.mk 2 0 0 1 0 0)]) ([]) (Rec.mk true 0 0 0) ([(Rec.mk false 1 5 0), (Rec.mk false 1 6 0), (Rec.mk true 0 0 0)])).dead) rfl (by decide +kernel) ?_
  refine s_gy (y_eqlS (a := #[.bool (((stepO (chkB 1 ([]) ([(Opc.mk 2 0 0 1 0 0)]) ([])) ([(Opc.mk 2 0 0 1 0 0)]) ([]) (Rec.mk true 0 0 0) ([(Rec.mk false 1 5 0), (Rec.mk false 1 6 0), (Rec.mk true 0 0 0)])).getD 2 default).dead), .int .i64 ((((stepO (chkB 1 ([]) ([(Opc.mk 2 0 0 1 0 0)]) ([])) ([(Opc.mk 2 0 0 1 0 0)]) ([]) (Rec.mk true 0 0 0) ([(Rec.mk false 1 5 0), (Rec.mk false 1 6 0), (Rec.mk true 0 0 0)])).getD 2 default).key).toInt), .int .i64 ((((stepO (chkB 1 ([]) ([(Opc.mk 2 0 0 1 0 0)]) ([])) ([(Opc.mk 2 0 0 1 0 0)]) ([]) (Rec.mk true 0 0 0) ([(Rec.mk false 1 5 0), (Rec.mk false 1 6 0), (Rec.mk true 0 0 0)])).getD 2 default).value).toInt), .int .i64 ((((stepO (chkB 1 ([]) ([(Opc.mk 2 0 0 1 0 0)]) ([])) ([(Opc.mk 2 0 0 1 0 0)]) ([]) (Rec.mk true 0 0 0) ([(Rec.mk false 1 5 0), (Rec.mk false 1 6 0), (Rec.mk true 0 0 0)])).getD 2 default).seq).toInt)]) (b := #[.bool false, .int .i64 1, .int .i64 11, .int .i64 0]) (c := decide (((stepO (chkB 1 ([]) ([(Opc.mk 2 0 0 1 0 0)]) ([])) ([(Opc.mk 2 0 0 1 0 0)]) ([]) (Rec.mk true 0 0 0) ([(Rec.mk false 1 5 0), (Rec.mk false 1 6 0), (Rec.mk true 0 0 0)])).getD 2 default) = (Rec.mk false 1 11 0))) Try.eqGuardType23 (fun w => equalR w ((stepO (chkB 1 ([]) ([(Opc.mk 2 0 0 1 0 0)]) ([])) ([(Opc.mk 2 0 0 1 0 0)]) ([]) (Rec.mk true 0 0 0) ([(Rec.mk false 1 5 0), (Rec.mk false 1 6 0), (Rec.mk true 0 0 0)])).getD 2 default) (Rec.mk false 1 11 0)) rfl rfl) rfl rfl rfl rfl (b' := (stepC (chkB 1 ([]) ([(Opc.mk 2 0 0 1 0 0)]) ([])) ([(Opc.mk 2 0 0 1 0 0)]) ([]) (Rec.mk true 0 0 0) ([(Rec.mk false 1 5 0), (Rec.mk false 1 6 0), (Rec.mk true 0 0 0)])).dead) rfl (by decide +kernel) ?_
  refine s_y (v := .bool (decide (((stepO (chkB 1 ([]) ([(Opc.mk 2 0 0 1 0 0)]) ([])) ([(Opc.mk 2 0 0 1 0 0)]) ([]) (Rec.mk true 0 0 0) ([(Rec.mk false 1 5 0), (Rec.mk false 1 6 0), (Rec.mk true 0 0 0)])).getD 2 default) = (Rec.mk false 1 11 0)))) (y_pickT (b := (stepC (chkB 1 ([]) ([(Opc.mk 2 0 0 1 0 0)]) ([])) ([(Opc.mk 2 0 0 1 0 0)]) ([]) (Rec.mk true 0 0 0) ([(Rec.mk false 1 5 0), (Rec.mk false 1 6 0), (Rec.mk true 0 0 0)])).dead) (v := .bool (decide (((stepO (chkB 1 ([]) ([(Opc.mk 2 0 0 1 0 0)]) ([])) ([(Opc.mk 2 0 0 1 0 0)]) ([]) (Rec.mk true 0 0 0) ([(Rec.mk false 1 5 0), (Rec.mk false 1 6 0), (Rec.mk true 0 0 0)])).getD 2 default) = (Rec.mk false 1 11 0)))) rfl (by decide +kernel) rfl) rfl ?_
  refine s_y (v := .bool (decide (((stepO (chkB 1 ([]) ([(Opc.mk 2 0 0 1 0 0)]) ([])) ([(Opc.mk 2 0 0 1 0 0)]) ([]) (Rec.mk true 0 0 0) ([(Rec.mk false 1 5 0), (Rec.mk false 1 6 0), (Rec.mk true 0 0 0)])).getD 2 default) = (Rec.mk false 1 11 0)))) (y_move rfl) rfl ?_
  refine s_gy (y_move rfl) rfl rfl rfl rfl (b' := decide (((stepO (chkB 1 ([]) ([(Opc.mk 2 0 0 1 0 0)]) ([])) ([(Opc.mk 2 0 0 1 0 0)]) ([]) (Rec.mk true 0 0 0) ([(Rec.mk false 1 5 0), (Rec.mk false 1 6 0), (Rec.mk true 0 0 0)])).getD 2 default) = (Rec.mk false 1 11 0))) rfl (by decide +kernel) ?_
  refine s_gy (y_idx (o := 0 * 4) rfl rfl Try.underlying69 Try.sizeOf23 (oslR (.t .h)) (fl_len recV_len _) (by decide) (by omega) (by omega) (by omega)) rfl rfl rfl rfl (b' := decide (((stepO (chkB 1 ([]) ([(Opc.mk 2 0 0 1 0 0)]) ([])) ([(Opc.mk 2 0 0 1 0 0)]) ([]) (Rec.mk true 0 0 0) ([(Rec.mk false 1 5 0), (Rec.mk false 1 6 0), (Rec.mk true 0 0 0)])).getD 2 default) = (Rec.mk false 1 11 0))) rfl (by decide +kernel) ?_
  refine s_gy (y_fieldAddr (o' := aO a_3 + 0 * 4) rfl Try.underlying23 rfl Try.sizeOf4 (by decide) rfl) rfl rfl rfl rfl (b' := decide (((stepO (chkB 1 ([]) ([(Opc.mk 2 0 0 1 0 0)]) ([])) ([(Opc.mk 2 0 0 1 0 0)]) ([]) (Rec.mk true 0 0 0) ([(Rec.mk false 1 5 0), (Rec.mk false 1 6 0), (Rec.mk true 0 0 0)])).getD 2 default) = (Rec.mk false 1 11 0))) rfl (by decide +kernel) ?_
  refine s_gy (y_load1 (v := .bool (((stepO (chkB 1 ([]) ([(Opc.mk 2 0 0 1 0 0)]) ([])) ([(Opc.mk 2 0 0 1 0 0)]) ([]) (Rec.mk true 0 0 0) ([(Rec.mk false 1 5 0), (Rec.mk false 1 6 0), (Rec.mk true 0 0 0)])).getD 0 default).dead)) rfl Try.isAgg4 (rd1 (k := 0 * 4) (oslR (.t .h)) (fl_get0 recV_len (stepO (chkB 1 ([]) ([(Opc.mk 2 0 0 1 0 0)]) ([])) ([(Opc.mk 2 0 0 1 0 0)]) ([]) (Rec.mk true 0 0 0) ([(Rec.mk false 1 5 0), (Rec.mk false 1 6 0), (Rec.mk true 0 0 0)])) 0 (by first | omega | (simp only [List.length_set, List.length_take, List.length_drop]; done) | (simp only [List.length_set, List.length_take, List.length_drop]; omega)) rfl))) rfl rfl rfl rfl (b' := decide (((stepO (chkB 1 ([]) ([(Opc.mk 2 0 0 1 0 0)]) ([])) ([(Opc.mk 2 0 0 1 0 0)]) ([]) (Rec.mk true 0 0 0) ([(Rec.mk false 1 5 0), (Rec.mk false 1 6 0), (Rec.mk true 0 0 0)])).getD 2 default) = (Rec.mk false 1 11 0))) rfl (by decide +kernel) ?_
  refine s_y (v := .bool (((stepO (chkB 1 ([]) ([(Opc.mk 2 0 0 1 0 0)]) ([])) ([(Opc.mk 2 0 0 1 0 0)]) ([]) (Rec.mk true 0 0 0) ([(Rec.mk false 1 5 0), (Rec.mk false 1 6 0), (Rec.mk true 0 0 0)])).getD 0 default).dead)) (y_pickT (b := decide (((stepO (chkB 1 ([]) ([(Opc.mk 2 0 0 1 0 0)]) ([])) ([(Opc.mk 2 0 0 1 0 0)]) ([]) (Rec.mk true 0 0 0) ([(Rec.mk false 1 5 0), (Rec.mk false 1 6 0), (Rec.mk true 0 0 0)])).getD 2 default) = (Rec.mk false 1 11 0))) (v := .bool (((stepO (chkB 1 ([]) ([(Opc.mk 2 0 0 1 0 0)]) ([])) ([(Opc.mk 2 0 0 1 0 0)]) ([]) (Rec.mk true 0 0 0) ([(Rec.mk false 1 5 0), (Rec.mk false 1 6 0), (Rec.mk true 0 0 0)])).getD 0 default).dead)) rfl (by decide +kernel) rfl) rfl ?_
  refine s_y (v := .bool (((stepO (chkB 1 ([]) ([(Opc.mk 2 0 0 1 0 0)]) ([])) ([(Opc.mk 2 0 0 1 0 0)]) ([]) (Rec.mk true 0 0 0) ([(Rec.mk false 1 5 0), (Rec.mk false 1 6 0), (Rec.mk true 0 0 0)])).getD 0 default).dead)) (y_assign rfl) rfl ?_
  refine wpL_nil ?_
  refine thenS_n ?_
  refine wpS_ret ?_
  refine fin1 (v := .bool (((stepO (chkB 1 ([]) ([(Opc.mk 2 0 0 1 0 0)]) ([])) ([(Opc.mk 2 0 0 1 0 0)]) ([]) (Rec.mk true 0 0 0) ([(Rec.mk false 1 5 0), (Rec.mk false 1 6 0), (Rec.mk true 0 0 0)])).getD 0 default).dead)) (.inr rfl) (.nil) Try.results90 rfl ?_
  exact fun w' hs => ⟨congrArg (fun b => Ending.returned (Value.bool b)) (show (((stepO (chkB 1 ([]) ([(Opc.mk 2 0 0 1 0 0)]) ([])) ([(Opc.mk 2 0 0 1 0 0)]) ([]) (Rec.mk true 0 0 0) ([(Rec.mk false 1 5 0), (Rec.mk false 1 6 0), (Rec.mk true 0 0 0)])).getD 0 default).dead) = true from (by decide +kernel)), hs⟩

theorem one_law (key v other wv : Int64) (dead : Bool) (w : World) : Pure Try.prog 28 #[.int .i64 (key.toInt), .int .i64 (v.toInt), .int .i64 (other.toInt), .int .i64 (wv.toInt), .bool dead] w (.bool true) := by
  refine calls_S (n := 84) (σ0 := (upd (upd (upd (upd (upd fr0 0 (.int .i64 (key.toInt))) 1 (.int .i64 (v.toInt))) 2 (.int .i64 (other.toInt))) 3 (.int .i64 (wv.toInt))) 4 (.bool dead))) (D := []) (A := []) Try.func28 rfl Try.ntmps28 rfl (a5_fr _ _ _ _ _) (SH.start w) ?_
  refine wpS_seq ?_
  refine wpS_region ?_
  refine s_y (v := .bool false) (y_assign rfl) rfl ?_
  refine wpL_nil ?_
  refine thenS_n ?_
  refine wpS_seq ?_
  refine wpS_region ?_
  refine s_e rfl ?_
  refine e_call (f := 94) (args := #[]) (X := Nat) (A := []) (M := []) (V := fun b : Nat => .agg #[.int .i64 1, .slice none 0 0, .slice (some ⟨b, 0, none⟩) 1 1, .slice none 0 0]) (A' := fun b : Nat => [cel b 86 [.int .i64 2, .int .i64 0, .int .i64 0, .int .i64 1, .int .i64 0, .int .i64 0]]) (C := fun _ => True) Try.call94 ev0 (.nil) (fun w hs => sum_c w) ?_
  rintro b_1 -
  refine s_e rfl ?_
  refine e_alloc (l := [.int .i64 0, .slice none 0 0, .slice none 0 0, .slice none 0 0]) Try.zeroValue84 rfl ?_
  intro b_2
  refine s_e0 ?_
  refine e_store (vs := [.int .i64 1, .slice none 0 0, .slice (some ⟨b_1, 0, none⟩) 1 1, .slice none 0 0]) (l' := [.int .i64 1, .slice none 0 0, .slice (some ⟨b_1, 0, none⟩) 1 1, .slice none 0 0]) rfl rfl rfl rfl Try.sizeOf84 .h (Nat.le_of_ble_eq_true rfl) rfl ?_
  refine wpL_nil ?_
  refine thenS_n ?_
  refine wpS_seq ?_
  refine wpS_region ?_
  refine s_y (v := .agg #[.int .i64 3, .int .i64 0, .int .i64 0, .int .i64 1, .int .i64 0, .int .i64 0]) (y_buildL (m := [(0, .int .i64 3), (2, .int .i64 0), (3, .int .i64 1)]) (vs := #[.int .i64 3, .int .i64 0, .int .i64 0, .int .i64 1, .int .i64 0, .int .i64 0]) (evc rfl (evc rfl (evc rfl evn))) (fun w => by kernel_rfl)) rfl ?_
  refine s_e rfl ?_
  refine e_bsliceL (e := 86) (m := [(0, .agg #[.int .i64 3, .int .i64 0, .int .i64 0, .int .i64 1, .int .i64 0, .int .i64 0])]) (l := [.int .i64 3, .int .i64 0, .int .i64 0, .int .i64 1, .int .i64 0, .int .i64 0]) (evc rfl evn) (fun w => by kernel_rfl) ?_
  intro b_3
  refine s_y (v := .pointer (some ⟨b_2, 3, none⟩)) (y_fieldAddr (o' := 3) rfl Try.underlying84 rfl Try.sizeOf82 (by decide) rfl) rfl ?_
  refine s_e0 ?_
  refine e_store (vs := [.slice (some ⟨b_3, 0, none⟩) 1 1]) (l' := [.int .i64 1, .slice none 0 0, .slice (some ⟨b_1, 0, none⟩) 1 1, .slice (some ⟨b_3, 0, none⟩) 1 1]) rfl rfl rfl rfl Try.sizeOf82 (.t .h) (Nat.le_of_ble_eq_true rfl) rfl ?_
  refine wpL_nil ?_
  refine thenS_n ?_
  refine wpS_seq ?_
  refine wpS_region ?_
  refine s_y (v := .int .i64 (key.toInt)) (y_move rfl) rfl ?_
  refine s_y (v := .int .i64 (v.toInt)) (y_move rfl) rfl ?_
  refine s_y (v := .agg #[.bool false, .int .i64 (key.toInt), .int .i64 (v.toInt), .int .i64 0]) (y_buildL (m := [(1, .int .i64 (key.toInt)), (2, .int .i64 (v.toInt))]) (vs := #[.bool false, .int .i64 (key.toInt), .int .i64 (v.toInt), .int .i64 0]) (evc rfl (evc rfl evn)) (fun w => by kernel_rfl)) rfl ?_
  refine s_e rfl ?_
  refine e_alloc (l := [.bool false, .int .i64 0, .int .i64 0, .int .i64 0]) Try.zeroValue23 rfl ?_
  intro b_4
  refine s_e0 ?_
  refine e_store (vs := [.bool false, .int .i64 (key.toInt), .int .i64 (v.toInt), .int .i64 0]) (l' := [.bool false, .int .i64 (key.toInt), .int .i64 (v.toInt), .int .i64 0]) rfl rfl rfl rfl Try.sizeOf23 .h (Nat.le_of_ble_eq_true rfl) rfl ?_
  refine wpL_nil ?_
  refine thenS_n ?_
  refine wpS_seq ?_
  refine wpS_region ?_
  refine s_y (v := .int .i64 (other.toInt)) (y_move rfl) rfl ?_
  refine s_y (v := .int .i64 (wv.toInt)) (y_move rfl) rfl ?_
  refine s_y (v := .agg #[.bool false, .int .i64 (other.toInt), .int .i64 (wv.toInt), .int .i64 9]) (y_buildL (m := [(1, .int .i64 (other.toInt)), (2, .int .i64 (wv.toInt)), (3, .int .i64 9)]) (vs := #[.bool false, .int .i64 (other.toInt), .int .i64 (wv.toInt), .int .i64 9]) (evc rfl (evc rfl (evc rfl evn))) (fun w => by kernel_rfl)) rfl ?_
  refine s_e rfl ?_
  refine e_alloc (l := [.bool false, .int .i64 0, .int .i64 0, .int .i64 0]) Try.zeroValue23 rfl ?_
  intro b_5
  refine s_e0 ?_
  refine e_store (vs := [.bool false, .int .i64 (other.toInt), .int .i64 (wv.toInt), .int .i64 9]) (l' := [.bool false, .int .i64 (other.toInt), .int .i64 (wv.toInt), .int .i64 9]) rfl rfl rfl rfl Try.sizeOf23 .h (Nat.le_of_ble_eq_true rfl) rfl ?_
  refine wpL_nil ?_
  refine thenS_n ?_
  refine wpS_seq ?_
  refine wpS_seq ?_
  refine wpS_region ?_
  refine s_y (v := .bool dead) (y_move rfl) rfl ?_
  refine wpL_nil ?_
  refine thenS_n ?_
  refine wpS_cond (t := dead) rfl (fun b6 => ?_) (fun b6 => ?_)
  · -- dead true
    refine wpS_region ?_
    refine s_y (v := .agg #[.bool true, .int .i64 0, .int .i64 0, .int .i64 0]) (y_buildL (m := [(0, .bool true)]) (vs := #[.bool true, .int .i64 0, .int .i64 0, .int .i64 0]) (evc rfl evn) (fun w => by kernel_rfl)) rfl ?_
    refine s_e0 ?_
    refine e_store (vs := [.bool true, .int .i64 0, .int .i64 0, .int .i64 0]) (l' := [.bool true, .int .i64 0, .int .i64 0, .int .i64 0]) rfl rfl rfl rfl Try.sizeOf23 .h (Nat.le_of_ble_eq_true rfl) rfl ?_
    refine wpL_nil ?_
    refine thenS_n ?_
    refine wpS_seq ?_
    refine wpS_region ?_
    refine s_y (v := .agg #[.int .i64 1, .slice none 0 0, .slice (some ⟨b_1, 0, none⟩) 1 1, .slice (some ⟨b_3, 0, none⟩) 1 1]) (y_loadN (vs := [.int .i64 1, .slice none 0 0, .slice (some ⟨b_1, 0, none⟩) 1 1, .slice (some ⟨b_3, 0, none⟩) 1 1]) rfl Try.isAgg84 Try.sizeOf84 (ownN (.t (.t .h)) rfl)) rfl ?_
    refine s_y (v := .agg #[.bool false, .int .i64 (key.toInt), .int .i64 (v.toInt), .int .i64 0]) (y_loadN (vs := [.bool false, .int .i64 (key.toInt), .int .i64 (v.toInt), .int .i64 0]) rfl Try.isAgg23 Try.sizeOf23 (ownN (.t .h) rfl)) rfl ?_
    refine s_y (v := .agg #[.bool true, .int .i64 0, .int .i64 0, .int .i64 0]) (y_loadN (vs := [.bool true, .int .i64 0, .int .i64 0, .int .i64 0]) rfl Try.isAgg23 Try.sizeOf23 (ownN .h rfl)) rfl ?_
    refine s_e rfl ?_
    refine e_bsliceL (e := 23) (m := [(0, .agg #[.bool true, .int .i64 0, .int .i64 0, .int .i64 0])]) (l := [.bool true, .int .i64 0, .int .i64 0, .int .i64 0]) (evc rfl evn) (fun w => by kernel_rfl) ?_
    intro b_7
    refine s_e rfl ?_
    refine e_call (f := 91) (args := #[.agg #[.int .i64 1, .slice none 0 0, .slice (some ⟨b_1, 0, none⟩) 1 1, .slice (some ⟨b_3, 0, none⟩) 1 1], .agg #[.bool false, .int .i64 (key.toInt), .int .i64 (v.toInt), .int .i64 0], .slice (some ⟨b_7, 0, none⟩) 1 1]) (X := Option Addr × Nat) (A := []) (M := [cel b_7 23 [.bool true, .int .i64 0, .int .i64 0, .int .i64 0], cel b_5 23 [.bool true, .int .i64 0, .int .i64 0, .int .i64 0], cel b_4 23 [.bool false, .int .i64 (key.toInt), .int .i64 (v.toInt), .int .i64 0], cel b_2 84 [.int .i64 1, .slice none 0 0, .slice (some ⟨b_1, 0, none⟩) 1 1, .slice (some ⟨b_3, 0, none⟩) 1 1], cel b_3 86 [.int .i64 3, .int .i64 0, .int .i64 0, .int .i64 1, .int .i64 0, .int .i64 0], cel b_1 86 [.int .i64 2, .int .i64 0, .int .i64 0, .int .i64 1, .int .i64 0, .int .i64 0]]) (V := fun x => .tuple #[slV (stepO (chkB 1 ([]) ([(Opc.mk 2 0 0 1 0 0)]) ([(Opc.mk 3 0 0 1 0 0)])) ([(Opc.mk 2 0 0 1 0 0)]) ([(Opc.mk 3 0 0 1 0 0)]) (Rec.mk false key v 0) ([(Rec.mk true 0 0 0)])) x, .agg #[.bool ((stepC (chkB 1 ([]) ([(Opc.mk 2 0 0 1 0 0)]) ([(Opc.mk 3 0 0 1 0 0)])) ([(Opc.mk 2 0 0 1 0 0)]) ([(Opc.mk 3 0 0 1 0 0)]) (Rec.mk false key v 0) ([(Rec.mk true 0 0 0)])).dead), .int .i64 (((stepC (chkB 1 ([]) ([(Opc.mk 2 0 0 1 0 0)]) ([(Opc.mk 3 0 0 1 0 0)])) ([(Opc.mk 2 0 0 1 0 0)]) ([(Opc.mk 3 0 0 1 0 0)]) (Rec.mk false key v 0) ([(Rec.mk true 0 0 0)])).key).toInt), .int .i64 (((stepC (chkB 1 ([]) ([(Opc.mk 2 0 0 1 0 0)]) ([(Opc.mk 3 0 0 1 0 0)])) ([(Opc.mk 2 0 0 1 0 0)]) ([(Opc.mk 3 0 0 1 0 0)]) (Rec.mk false key v 0) ([(Rec.mk true 0 0 0)])).value).toInt), .int .i64 (((stepC (chkB 1 ([]) ([(Opc.mk 2 0 0 1 0 0)]) ([(Opc.mk 3 0 0 1 0 0)])) ([(Opc.mk 2 0 0 1 0 0)]) ([(Opc.mk 3 0 0 1 0 0)]) (Rec.mk false key v 0) ([(Rec.mk true 0 0 0)])).seq).toInt)]]) (A' := fun x => [slR recV 4 23 (stepO (chkB 1 ([]) ([(Opc.mk 2 0 0 1 0 0)]) ([(Opc.mk 3 0 0 1 0 0)])) ([(Opc.mk 2 0 0 1 0 0)]) ([(Opc.mk 3 0 0 1 0 0)]) (Rec.mk false key v 0) ([(Rec.mk true 0 0 0)])) x]) (C := fun _ => True) Try.call91 (ev3 rfl rfl rfl) (.p .h (.p .h (.p .h (.p .h (.p .h (.p .h .nil)))))) (fun w hs => cstep_c 1 none (some ⟨b_1, 0, none⟩) (some ⟨b_3, 0, none⟩) 0 0 1 1 1 1 ([]) ([(Opc.mk 2 0 0 1 0 0)]) ([(Opc.mk 3 0 0 1 0 0)]) (Rec.mk false key v 0) (some ⟨b_7, 0, none⟩) 1 1 ([(Rec.mk true 0 0 0)]) w (by first | rfl | (simp only [List.length_set]; done) | omega) (Rds.nil _ _) (by omega) (by first | rfl | (simp only [List.length_set]; done) | omega) (celR (.t (.t (.t (.t (.t .h))))) w hs) (by omega) (by first | rfl | (simp only [List.length_set]; done) | omega) (celR (.t (.t (.t (.t .h)))) w hs) (by omega) rfl (celR .h w hs) (by omega)) ?_
    rintro ⟨a_8, c_9⟩ -
    have hso11 : (stepO (chkB 1 ([]) ([(Opc.mk 2 0 0 1 0 0)]) ([(Opc.mk 3 0 0 1 0 0)])) ([(Opc.mk 2 0 0 1 0 0)]) ([(Opc.mk 3 0 0 1 0 0)]) (Rec.mk false key v 0) ([(Rec.mk true 0 0 0)])).length = ([(Rec.mk true 0 0 0)]).length := stepO_len one_ok
    try simp only [List.length_cons, List.length_nil, Nat.zero_add] at hso11
    refine s_y (v := .tuple #[.slice a_8 ((stepO (chkB 1 ([]) ([(Opc.mk 2 0 0 1 0 0)]) ([(Opc.mk 3 0 0 1 0 0)])) ([(Opc.mk 2 0 0 1 0 0)]) ([(Opc.mk 3 0 0 1 0 0)]) (Rec.mk false key v 0) ([(Rec.mk true 0 0 0)])).length) c_9, .agg #[.bool ((stepC (chkB 1 ([]) ([(Opc.mk 2 0 0 1 0 0)]) ([(Opc.mk 3 0 0 1 0 0)])) ([(Opc.mk 2 0 0 1 0 0)]) ([(Opc.mk 3 0 0 1 0 0)]) (Rec.mk false key v 0) ([(Rec.mk true 0 0 0)])).dead), .int .i64 (((stepC (chkB 1 ([]) ([(Opc.mk 2 0 0 1 0 0)]) ([(Opc.mk 3 0 0 1 0 0)])) ([(Opc.mk 2 0 0 1 0 0)]) ([(Opc.mk 3 0 0 1 0 0)]) (Rec.mk false key v 0) ([(Rec.mk true 0 0 0)])).key).toInt), .int .i64 (((stepC (chkB 1 ([]) ([(Opc.mk 2 0 0 1 0 0)]) ([(Opc.mk 3 0 0 1 0 0)])) ([(Opc.mk 2 0 0 1 0 0)]) ([(Opc.mk 3 0 0 1 0 0)]) (Rec.mk false key v 0) ([(Rec.mk true 0 0 0)])).value).toInt), .int .i64 (((stepC (chkB 1 ([]) ([(Opc.mk 2 0 0 1 0 0)]) ([(Opc.mk 3 0 0 1 0 0)])) ([(Opc.mk 2 0 0 1 0 0)]) ([(Opc.mk 3 0 0 1 0 0)]) (Rec.mk false key v 0) ([(Rec.mk true 0 0 0)])).seq).toInt)]]) (y_move rfl) rfl ?_
    refine s_y (v := .slice a_8 ((stepO (chkB 1 ([]) ([(Opc.mk 2 0 0 1 0 0)]) ([(Opc.mk 3 0 0 1 0 0)])) ([(Opc.mk 2 0 0 1 0 0)]) ([(Opc.mk 3 0 0 1 0 0)]) (Rec.mk false key v 0) ([(Rec.mk true 0 0 0)])).length) c_9) (y_extract (v := .slice a_8 ((stepO (chkB 1 ([]) ([(Opc.mk 2 0 0 1 0 0)]) ([(Opc.mk 3 0 0 1 0 0)])) ([(Opc.mk 2 0 0 1 0 0)]) ([(Opc.mk 3 0 0 1 0 0)]) (Rec.mk false key v 0) ([(Rec.mk true 0 0 0)])).length) c_9) rfl rfl) rfl ?_
    refine s_y (v := .agg #[.bool ((stepC (chkB 1 ([]) ([(Opc.mk 2 0 0 1 0 0)]) ([(Opc.mk 3 0 0 1 0 0)])) ([(Opc.mk 2 0 0 1 0 0)]) ([(Opc.mk 3 0 0 1 0 0)]) (Rec.mk false key v 0) ([(Rec.mk true 0 0 0)])).dead), .int .i64 (((stepC (chkB 1 ([]) ([(Opc.mk 2 0 0 1 0 0)]) ([(Opc.mk 3 0 0 1 0 0)])) ([(Opc.mk 2 0 0 1 0 0)]) ([(Opc.mk 3 0 0 1 0 0)]) (Rec.mk false key v 0) ([(Rec.mk true 0 0 0)])).key).toInt), .int .i64 (((stepC (chkB 1 ([]) ([(Opc.mk 2 0 0 1 0 0)]) ([(Opc.mk 3 0 0 1 0 0)])) ([(Opc.mk 2 0 0 1 0 0)]) ([(Opc.mk 3 0 0 1 0 0)]) (Rec.mk false key v 0) ([(Rec.mk true 0 0 0)])).value).toInt), .int .i64 (((stepC (chkB 1 ([]) ([(Opc.mk 2 0 0 1 0 0)]) ([(Opc.mk 3 0 0 1 0 0)])) ([(Opc.mk 2 0 0 1 0 0)]) ([(Opc.mk 3 0 0 1 0 0)]) (Rec.mk false key v 0) ([(Rec.mk true 0 0 0)])).seq).toInt)]) (y_extract (v := .agg #[.bool ((stepC (chkB 1 ([]) ([(Opc.mk 2 0 0 1 0 0)]) ([(Opc.mk 3 0 0 1 0 0)])) ([(Opc.mk 2 0 0 1 0 0)]) ([(Opc.mk 3 0 0 1 0 0)]) (Rec.mk false key v 0) ([(Rec.mk true 0 0 0)])).dead), .int .i64 (((stepC (chkB 1 ([]) ([(Opc.mk 2 0 0 1 0 0)]) ([(Opc.mk 3 0 0 1 0 0)])) ([(Opc.mk 2 0 0 1 0 0)]) ([(Opc.mk 3 0 0 1 0 0)]) (Rec.mk false key v 0) ([(Rec.mk true 0 0 0)])).key).toInt), .int .i64 (((stepC (chkB 1 ([]) ([(Opc.mk 2 0 0 1 0 0)]) ([(Opc.mk 3 0 0 1 0 0)])) ([(Opc.mk 2 0 0 1 0 0)]) ([(Opc.mk 3 0 0 1 0 0)]) (Rec.mk false key v 0) ([(Rec.mk true 0 0 0)])).value).toInt), .int .i64 (((stepC (chkB 1 ([]) ([(Opc.mk 2 0 0 1 0 0)]) ([(Opc.mk 3 0 0 1 0 0)])) ([(Opc.mk 2 0 0 1 0 0)]) ([(Opc.mk 3 0 0 1 0 0)]) (Rec.mk false key v 0) ([(Rec.mk true 0 0 0)])).seq).toInt)]) rfl rfl) rfl ?_
    refine s_e rfl ?_
    refine e_alloc (l := [.bool false, .int .i64 0, .int .i64 0, .int .i64 0]) Try.zeroValue23 rfl ?_
    intro b_12
    refine s_y (v := .slice a_8 ((stepO (chkB 1 ([]) ([(Opc.mk 2 0 0 1 0 0)]) ([(Opc.mk 3 0 0 1 0 0)])) ([(Opc.mk 2 0 0 1 0 0)]) ([(Opc.mk 3 0 0 1 0 0)]) (Rec.mk false key v 0) ([(Rec.mk true 0 0 0)])).length) c_9) (y_assign rfl) rfl ?_
    refine s_e0 ?_
    refine e_store (vs := [.bool ((stepC (chkB 1 ([]) ([(Opc.mk 2 0 0 1 0 0)]) ([(Opc.mk 3 0 0 1 0 0)])) ([(Opc.mk 2 0 0 1 0 0)]) ([(Opc.mk 3 0 0 1 0 0)]) (Rec.mk false key v 0) ([(Rec.mk true 0 0 0)])).dead), .int .i64 (((stepC (chkB 1 ([]) ([(Opc.mk 2 0 0 1 0 0)]) ([(Opc.mk 3 0 0 1 0 0)])) ([(Opc.mk 2 0 0 1 0 0)]) ([(Opc.mk 3 0 0 1 0 0)]) (Rec.mk false key v 0) ([(Rec.mk true 0 0 0)])).key).toInt), .int .i64 (((stepC (chkB 1 ([]) ([(Opc.mk 2 0 0 1 0 0)]) ([(Opc.mk 3 0 0 1 0 0)])) ([(Opc.mk 2 0 0 1 0 0)]) ([(Opc.mk 3 0 0 1 0 0)]) (Rec.mk false key v 0) ([(Rec.mk true 0 0 0)])).value).toInt), .int .i64 (((stepC (chkB 1 ([]) ([(Opc.mk 2 0 0 1 0 0)]) ([(Opc.mk 3 0 0 1 0 0)])) ([(Opc.mk 2 0 0 1 0 0)]) ([(Opc.mk 3 0 0 1 0 0)]) (Rec.mk false key v 0) ([(Rec.mk true 0 0 0)])).seq).toInt)]) (l' := [.bool ((stepC (chkB 1 ([]) ([(Opc.mk 2 0 0 1 0 0)]) ([(Opc.mk 3 0 0 1 0 0)])) ([(Opc.mk 2 0 0 1 0 0)]) ([(Opc.mk 3 0 0 1 0 0)]) (Rec.mk false key v 0) ([(Rec.mk true 0 0 0)])).dead), .int .i64 (((stepC (chkB 1 ([]) ([(Opc.mk 2 0 0 1 0 0)]) ([(Opc.mk 3 0 0 1 0 0)])) ([(Opc.mk 2 0 0 1 0 0)]) ([(Opc.mk 3 0 0 1 0 0)]) (Rec.mk false key v 0) ([(Rec.mk true 0 0 0)])).key).toInt), .int .i64 (((stepC (chkB 1 ([]) ([(Opc.mk 2 0 0 1 0 0)]) ([(Opc.mk 3 0 0 1 0 0)])) ([(Opc.mk 2 0 0 1 0 0)]) ([(Opc.mk 3 0 0 1 0 0)]) (Rec.mk false key v 0) ([(Rec.mk true 0 0 0)])).value).toInt), .int .i64 (((stepC (chkB 1 ([]) ([(Opc.mk 2 0 0 1 0 0)]) ([(Opc.mk 3 0 0 1 0 0)])) ([(Opc.mk 2 0 0 1 0 0)]) ([(Opc.mk 3 0 0 1 0 0)]) (Rec.mk false key v 0) ([(Rec.mk true 0 0 0)])).seq).toInt)]) rfl rfl rfl rfl Try.sizeOf23 .h (Nat.le_of_ble_eq_true rfl) rfl ?_
    refine wpL_nil ?_
    refine thenS_n ?_
    refine wpS_seq ?_
    refine wpS_seq ?_
    refine wpS_region ?_
    refine s_y (v := .bool true) (y_call (args := #[]) (v := .bool true) Try.call90 ev0 (fun w hs => awake15_c w)) rfl ?_
    refine s_y (v := .bool false) (y_notK (b := true) (c := false) rfl rfl) rfl ?_
    refine s_y (v := .bool false) (y_move rfl) rfl ?_
    refine s_gy (y_move rfl) rfl rfl rfl rfl rfl rfl ?_
    refine s_gy (y_len (ty' := 0) (at_ := #[]) rfl Try.underlying69) rfl rfl rfl rfl rfl rfl ?_
    refine s_gy (y_neq (a := (((stepO (chkB 1 ([]) ([(Opc.mk 2 0 0 1 0 0)]) ([(Opc.mk 3 0 0 1 0 0)])) ([(Opc.mk 2 0 0 1 0 0)]) ([(Opc.mk 3 0 0 1 0 0)]) (Rec.mk false key v 0) ([(Rec.mk true 0 0 0)])).length : Nat) : Int)) (b := 1) (c := decide (((stepO (chkB 1 ([]) ([(Opc.mk 2 0 0 1 0 0)]) ([(Opc.mk 3 0 0 1 0 0)])) ([(Opc.mk 2 0 0 1 0 0)]) ([(Opc.mk 3 0 0 1 0 0)]) (Rec.mk false key v 0) ([(Rec.mk true 0 0 0)])).length : Nat) ≠ 1)) rfl rfl (decide_eq_decide.2 (by omega))) rfl rfl rfl rfl rfl rfl ?_
    refine s_y (v := .bool (decide (((stepO (chkB 1 ([]) ([(Opc.mk 2 0 0 1 0 0)]) ([(Opc.mk 3 0 0 1 0 0)])) ([(Opc.mk 2 0 0 1 0 0)]) ([(Opc.mk 3 0 0 1 0 0)]) (Rec.mk false key v 0) ([(Rec.mk true 0 0 0)])).length : Nat) ≠ 1))) (y_pickF (v := .bool (decide (((stepO (chkB 1 ([]) ([(Opc.mk 2 0 0 1 0 0)]) ([(Opc.mk 3 0 0 1 0 0)])) ([(Opc.mk 2 0 0 1 0 0)]) ([(Opc.mk 3 0 0 1 0 0)]) (Rec.mk false key v 0) ([(Rec.mk true 0 0 0)])).length : Nat) ≠ 1))) rfl rfl rfl) rfl ?_
    refine wpL_nil ?_
    refine thenS_n ?_
    refine wpS_cond_F (t := decide (((stepO (chkB 1 ([]) ([(Opc.mk 2 0 0 1 0 0)]) ([(Opc.mk 3 0 0 1 0 0)])) ([(Opc.mk 2 0 0 1 0 0)]) ([(Opc.mk 3 0 0 1 0 0)]) (Rec.mk false key v 0) ([(Rec.mk true 0 0 0)])).length : Nat) ≠ 1)) rfl (decide_eq_false (by omega)) ?_
    refine wpS_skip ?_
    refine thenS_n ?_
    refine wpS_seq ?_
    refine wpS_seq ?_
    refine wpS_region ?_
    refine s_y (v := .bool dead) (y_move rfl) rfl ?_
    refine s_y (v := .bool (!dead)) (y_not (b := dead) rfl) rfl ?_
    refine s_y (v := .bool (!dead)) (y_move rfl) rfl ?_
    refine s_no rfl rfl rfl rfl (b' := !dead) rfl (congrArg not b6) ?_
    refine s_no rfl rfl rfl rfl (b' := !dead) rfl (congrArg not b6) ?_
    refine s_no rfl rfl rfl rfl (b' := !dead) rfl (congrArg not b6) ?_
    refine s_y (v := .bool false) (y_pickF (b := !dead) (v := .bool false) rfl (congrArg not b6) rfl) rfl ?_
    refine wpL_nil ?_
    refine thenS_n ?_
    refine wpS_cond_f rfl ?_
    refine wpS_skip ?_
    refine thenS_n ?_
    refine wpS_seq ?_
    refine wpS_region ?_
    refine s_y (v := .int .i64 (other.toInt)) (y_move rfl) rfl ?_
    refine s_y (v := .int .i64 (wv.toInt)) (y_move rfl) rfl ?_
    refine s_y (v := .agg #[.bool false, .int .i64 (other.toInt), .int .i64 (wv.toInt), .int .i64 0]) (y_buildL (m := [(1, .int .i64 (other.toInt)), (2, .int .i64 (wv.toInt))]) (vs := #[.bool false, .int .i64 (other.toInt), .int .i64 (wv.toInt), .int .i64 0]) (evc rfl (evc rfl evn)) (fun w => by kernel_rfl)) rfl ?_
    refine s_e rfl ?_
    refine e_alloc (l := [.bool false, .int .i64 0, .int .i64 0, .int .i64 0]) Try.zeroValue23 rfl ?_
    intro b_13
    refine s_e0 ?_
    refine e_store (vs := [.bool false, .int .i64 (other.toInt), .int .i64 (wv.toInt), .int .i64 0]) (l' := [.bool false, .int .i64 (other.toInt), .int .i64 (wv.toInt), .int .i64 0]) rfl rfl rfl rfl Try.sizeOf23 .h (Nat.le_of_ble_eq_true rfl) rfl ?_
    refine wpL_nil ?_
    refine thenS_n ?_
    refine wpS_seq ?_
    refine wpS_seq ?_
    refine wpS_region ?_
    refine s_y (v := .bool dead) (y_move rfl) rfl ?_
    refine wpL_nil ?_
    refine thenS_n ?_
    refine wpS_cond_T (t := dead) rfl b6 ?_
    refine wpS_region ?_
    refine s_y (v := .agg #[.bool true, .int .i64 0, .int .i64 0, .int .i64 0]) (y_buildL (m := [(0, .bool true)]) (vs := #[.bool true, .int .i64 0, .int .i64 0, .int .i64 0]) (evc rfl evn) (fun w => by kernel_rfl)) rfl ?_
    refine s_e0 ?_
    refine e_store (vs := [.bool true, .int .i64 0, .int .i64 0, .int .i64 0]) (l' := [.bool true, .int .i64 0, .int .i64 0, .int .i64 0]) rfl rfl rfl rfl Try.sizeOf23 .h (Nat.le_of_ble_eq_true rfl) rfl ?_
    refine wpL_nil ?_
    refine thenS_n ?_
    refine wpS_seq ?_
    refine wpS_region ?_
    refine s_y (v := .slice a_8 ((stepO (chkB 1 ([]) ([(Opc.mk 2 0 0 1 0 0)]) ([(Opc.mk 3 0 0 1 0 0)])) ([(Opc.mk 2 0 0 1 0 0)]) ([(Opc.mk 3 0 0 1 0 0)]) (Rec.mk false key v 0) ([(Rec.mk true 0 0 0)])).length) c_9) (y_move rfl) rfl ?_
    refine s_y (v := .pointer (some ⟨aB a_8, aO a_8 + 0 * 4, none⟩)) (y_idx (o := 0 * 4) rfl rfl Try.underlying69 Try.sizeOf23 (oslR (.t (.t .h))) (fl_len recV_len _) (by decide) (by omega) (by omega) (by omega)) rfl ?_
    refine s_y (v := .agg #[.bool (((stepO (chkB 1 ([]) ([(Opc.mk 2 0 0 1 0 0)]) ([(Opc.mk 3 0 0 1 0 0)])) ([(Opc.mk 2 0 0 1 0 0)]) ([(Opc.mk 3 0 0 1 0 0)]) (Rec.mk false key v 0) ([(Rec.mk true 0 0 0)])).getD 0 default).dead), .int .i64 ((((stepO (chkB 1 ([]) ([(Opc.mk 2 0 0 1 0 0)]) ([(Opc.mk 3 0 0 1 0 0)])) ([(Opc.mk 2 0 0 1 0 0)]) ([(Opc.mk 3 0 0 1 0 0)]) (Rec.mk false key v 0) ([(Rec.mk true 0 0 0)])).getD 0 default).key).toInt), .int .i64 ((((stepO (chkB 1 ([]) ([(Opc.mk 2 0 0 1 0 0)]) ([(Opc.mk 3 0 0 1 0 0)])) ([(Opc.mk 2 0 0 1 0 0)]) ([(Opc.mk 3 0 0 1 0 0)]) (Rec.mk false key v 0) ([(Rec.mk true 0 0 0)])).getD 0 default).value).toInt), .int .i64 ((((stepO (chkB 1 ([]) ([(Opc.mk 2 0 0 1 0 0)]) ([(Opc.mk 3 0 0 1 0 0)])) ([(Opc.mk 2 0 0 1 0 0)]) ([(Opc.mk 3 0 0 1 0 0)]) (Rec.mk false key v 0) ([(Rec.mk true 0 0 0)])).getD 0 default).seq).toInt)]) (y_loadN (vs := recV ((stepO (chkB 1 ([]) ([(Opc.mk 2 0 0 1 0 0)]) ([(Opc.mk 3 0 0 1 0 0)])) ([(Opc.mk 2 0 0 1 0 0)]) ([(Opc.mk 3 0 0 1 0 0)]) (Rec.mk false key v 0) ([(Rec.mk true 0 0 0)])).getD 0 default)) rfl Try.isAgg23 Try.sizeOf23 (rdN (oslR (.t (.t .h))) (fl_getN recV_len (stepO (chkB 1 ([]) ([(Opc.mk 2 0 0 1 0 0)]) ([(Opc.mk 3 0 0 1 0 0)])) ([(Opc.mk 2 0 0 1 0 0)]) ([(Opc.mk 3 0 0 1 0 0)]) (Rec.mk false key v 0) ([(Rec.mk true 0 0 0)])) 0 (by first | omega | (simp only [List.length_set, List.length_take, List.length_drop]; done) | (simp only [List.length_set, List.length_take, List.length_drop]; omega))))) rfl ?_
    refine s_y (v := .int .i64 (key.toInt)) (y_move rfl) rfl ?_
    refine s_y (v := .int .i64 (v.toInt)) (y_move rfl) rfl ?_
    refine s_y (v := .int .i64 (key.toInt)) (y_move rfl) rfl ?_
    refine s_y (v := .int .i64 (((v - key)).toInt)) (y_sub (a := v.toInt) (b := key.toInt) (c := ((v - key)).toInt) rfl rfl (i_sub _ _)) rfl ?_
    refine s_y (v := .agg #[.bool false, .int .i64 (key.toInt), .int .i64 (((v - key)).toInt), .int .i64 0]) (y_buildL (m := [(1, .int .i64 (key.toInt)), (2, .int .i64 (((v - key)).toInt))]) (vs := #[.bool false, .int .i64 (key.toInt), .int .i64 (((v - key)).toInt), .int .i64 0]) (evc rfl (evc rfl evn)) (fun w => by kernel_rfl)) rfl ?_
    refine s_y (v := .bool (decide (((stepO (chkB 1 ([]) ([(Opc.mk 2 0 0 1 0 0)]) ([(Opc.mk 3 0 0 1 0 0)])) ([(Opc.mk 2 0 0 1 0 0)]) ([(Opc.mk 3 0 0 1 0 0)]) (Rec.mk false key v 0) ([(Rec.mk true 0 0 0)])).getD 0 default) = (Rec.mk false key (v - key) 0)))) (y_eqlS (a := #[.bool (((stepO (chkB 1 ([]) ([(Opc.mk 2 0 0 1 0 0)]) ([(Opc.mk 3 0 0 1 0 0)])) ([(Opc.mk 2 0 0 1 0 0)]) ([(Opc.mk 3 0 0 1 0 0)]) (Rec.mk false key v 0) ([(Rec.mk true 0 0 0)])).getD 0 default).dead), .int .i64 ((((stepO (chkB 1 ([]) ([(Opc.mk 2 0 0 1 0 0)]) ([(Opc.mk 3 0 0 1 0 0)])) ([(Opc.mk 2 0 0 1 0 0)]) ([(Opc.mk 3 0 0 1 0 0)]) (Rec.mk false key v 0) ([(Rec.mk true 0 0 0)])).getD 0 default).key).toInt), .int .i64 ((((stepO (chkB 1 ([]) ([(Opc.mk 2 0 0 1 0 0)]) ([(Opc.mk 3 0 0 1 0 0)])) ([(Opc.mk 2 0 0 1 0 0)]) ([(Opc.mk 3 0 0 1 0 0)]) (Rec.mk false key v 0) ([(Rec.mk true 0 0 0)])).getD 0 default).value).toInt), .int .i64 ((((stepO (chkB 1 ([]) ([(Opc.mk 2 0 0 1 0 0)]) ([(Opc.mk 3 0 0 1 0 0)])) ([(Opc.mk 2 0 0 1 0 0)]) ([(Opc.mk 3 0 0 1 0 0)]) (Rec.mk false key v 0) ([(Rec.mk true 0 0 0)])).getD 0 default).seq).toInt)]) (b := #[.bool false, .int .i64 (key.toInt), .int .i64 (((v - key)).toInt), .int .i64 0]) (c := decide (((stepO (chkB 1 ([]) ([(Opc.mk 2 0 0 1 0 0)]) ([(Opc.mk 3 0 0 1 0 0)])) ([(Opc.mk 2 0 0 1 0 0)]) ([(Opc.mk 3 0 0 1 0 0)]) (Rec.mk false key v 0) ([(Rec.mk true 0 0 0)])).getD 0 default) = (Rec.mk false key (v - key) 0))) Try.eqGuardType23 (fun w => equalR w ((stepO (chkB 1 ([]) ([(Opc.mk 2 0 0 1 0 0)]) ([(Opc.mk 3 0 0 1 0 0)])) ([(Opc.mk 2 0 0 1 0 0)]) ([(Opc.mk 3 0 0 1 0 0)]) (Rec.mk false key v 0) ([(Rec.mk true 0 0 0)])).getD 0 default) (Rec.mk false key (v - key) 0)) rfl rfl) rfl ?_
    refine s_y (v := .bool (decide (((stepO (chkB 1 ([]) ([(Opc.mk 2 0 0 1 0 0)]) ([(Opc.mk 3 0 0 1 0 0)])) ([(Opc.mk 2 0 0 1 0 0)]) ([(Opc.mk 3 0 0 1 0 0)]) (Rec.mk false key v 0) ([(Rec.mk true 0 0 0)])).getD 0 default) = (Rec.mk false key (v - key) 0)))) (y_move rfl) rfl ?_
    refine s_gy (y_loadN (vs := [.bool ((stepC (chkB 1 ([]) ([(Opc.mk 2 0 0 1 0 0)]) ([(Opc.mk 3 0 0 1 0 0)])) ([(Opc.mk 2 0 0 1 0 0)]) ([(Opc.mk 3 0 0 1 0 0)]) (Rec.mk false key v 0) ([(Rec.mk true 0 0 0)])).dead), .int .i64 (((stepC (chkB 1 ([]) ([(Opc.mk 2 0 0 1 0 0)]) ([(Opc.mk 3 0 0 1 0 0)])) ([(Opc.mk 2 0 0 1 0 0)]) ([(Opc.mk 3 0 0 1 0 0)]) (Rec.mk false key v 0) ([(Rec.mk true 0 0 0)])).key).toInt), .int .i64 (((stepC (chkB 1 ([]) ([(Opc.mk 2 0 0 1 0 0)]) ([(Opc.mk 3 0 0 1 0 0)])) ([(Opc.mk 2 0 0 1 0 0)]) ([(Opc.mk 3 0 0 1 0 0)]) (Rec.mk false key v 0) ([(Rec.mk true 0 0 0)])).value).toInt), .int .i64 (((stepC (chkB 1 ([]) ([(Opc.mk 2 0 0 1 0 0)]) ([(Opc.mk 3 0 0 1 0 0)])) ([(Opc.mk 2 0 0 1 0 0)]) ([(Opc.mk 3 0 0 1 0 0)]) (Rec.mk false key v 0) ([(Rec.mk true 0 0 0)])).seq).toInt)]) rfl Try.isAgg23 Try.sizeOf23 (ownN (.t .h) rfl)) rfl rfl rfl rfl (b' := decide (((stepO (chkB 1 ([]) ([(Opc.mk 2 0 0 1 0 0)]) ([(Opc.mk 3 0 0 1 0 0)])) ([(Opc.mk 2 0 0 1 0 0)]) ([(Opc.mk 3 0 0 1 0 0)]) (Rec.mk false key v 0) ([(Rec.mk true 0 0 0)])).getD 0 default) = (Rec.mk false key (v - key) 0))) rfl (decide_eq_true (by first | (simp [stepO, stepC, run15, cstp, normC, one_ok, one_f, one_g, deadR, *]; done) | (simp [stepO, stepC, run15, cstp, normC, one_ok, one_f, one_g, deadR, *, show ¬ other = key from fun h => absurd h.symm (by assumption)]; done))) ?_
    refine s_gy (y_loadN (vs := [.bool true, .int .i64 0, .int .i64 0, .int .i64 0]) rfl Try.isAgg23 Try.sizeOf23 (ownN .h rfl)) rfl rfl rfl rfl (b' := decide (((stepO (chkB 1 ([]) ([(Opc.mk 2 0 0 1 0 0)]) ([(Opc.mk 3 0 0 1 0 0)])) ([(Opc.mk 2 0 0 1 0 0)]) ([(Opc.mk 3 0 0 1 0 0)]) (Rec.mk false key v 0) ([(Rec.mk true 0 0 0)])).getD 0 default) = (Rec.mk false key (v - key) 0))) rfl (decide_eq_true (by first | (simp [stepO, stepC, run15, cstp, normC, one_ok, one_f, one_g, deadR, *]; done) | (simp [stepO, stepC, run15, cstp, normC, one_ok, one_f, one_g, deadR, *, show ¬ other = key from fun h => absurd h.symm (by assumption)]; done))) ?_
    refine s_gy (y_eqlS (a := #[.bool ((stepC (chkB 1 ([]) ([(Opc.mk 2 0 0 1 0 0)]) ([(Opc.mk 3 0 0 1 0 0)])) ([(Opc.mk 2 0 0 1 0 0)]) ([(Opc.mk 3 0 0 1 0 0)]) (Rec.mk false key v 0) ([(Rec.mk true 0 0 0)])).dead), .int .i64 (((stepC (chkB 1 ([]) ([(Opc.mk 2 0 0 1 0 0)]) ([(Opc.mk 3 0 0 1 0 0)])) ([(Opc.mk 2 0 0 1 0 0)]) ([(Opc.mk 3 0 0 1 0 0)]) (Rec.mk false key v 0) ([(Rec.mk true 0 0 0)])).key).toInt), .int .i64 (((stepC (chkB 1 ([]) ([(Opc.mk 2 0 0 1 0 0)]) ([(Opc.mk 3 0 0 1 0 0)])) ([(Opc.mk 2 0 0 1 0 0)]) ([(Opc.mk 3 0 0 1 0 0)]) (Rec.mk false key v 0) ([(Rec.mk true 0 0 0)])).value).toInt), .int .i64 (((stepC (chkB 1 ([]) ([(Opc.mk 2 0 0 1 0 0)]) ([(Opc.mk 3 0 0 1 0 0)])) ([(Opc.mk 2 0 0 1 0 0)]) ([(Opc.mk 3 0 0 1 0 0)]) (Rec.mk false key v 0) ([(Rec.mk true 0 0 0)])).seq).toInt)]) (b := #[.bool true, .int .i64 0, .int .i64 0, .int .i64 0]) (c := decide ((stepC (chkB 1 ([]) ([(Opc.mk 2 0 0 1 0 0)]) ([(Opc.mk 3 0 0 1 0 0)])) ([(Opc.mk 2 0 0 1 0 0)]) ([(Opc.mk 3 0 0 1 0 0)]) (Rec.mk false key v 0) ([(Rec.mk true 0 0 0)])) = (Rec.mk true 0 0 0))) Try.eqGuardType23 (fun w => equalR w (stepC (chkB 1 ([]) ([(Opc.mk 2 0 0 1 0 0)]) ([(Opc.mk 3 0 0 1 0 0)])) ([(Opc.mk 2 0 0 1 0 0)]) ([(Opc.mk 3 0 0 1 0 0)]) (Rec.mk false key v 0) ([(Rec.mk true 0 0 0)])) (Rec.mk true 0 0 0)) rfl rfl) rfl rfl rfl rfl (b' := decide (((stepO (chkB 1 ([]) ([(Opc.mk 2 0 0 1 0 0)]) ([(Opc.mk 3 0 0 1 0 0)])) ([(Opc.mk 2 0 0 1 0 0)]) ([(Opc.mk 3 0 0 1 0 0)]) (Rec.mk false key v 0) ([(Rec.mk true 0 0 0)])).getD 0 default) = (Rec.mk false key (v - key) 0))) rfl (decide_eq_true (by first | (simp [stepO, stepC, run15, cstp, normC, one_ok, one_f, one_g, deadR, *]; done) | (simp [stepO, stepC, run15, cstp, normC, one_ok, one_f, one_g, deadR, *, show ¬ other = key from fun h => absurd h.symm (by assumption)]; done))) ?_
    refine s_y (v := .bool (decide ((stepC (chkB 1 ([]) ([(Opc.mk 2 0 0 1 0 0)]) ([(Opc.mk 3 0 0 1 0 0)])) ([(Opc.mk 2 0 0 1 0 0)]) ([(Opc.mk 3 0 0 1 0 0)]) (Rec.mk false key v 0) ([(Rec.mk true 0 0 0)])) = (Rec.mk true 0 0 0)))) (y_pickT (b := decide (((stepO (chkB 1 ([]) ([(Opc.mk 2 0 0 1 0 0)]) ([(Opc.mk 3 0 0 1 0 0)])) ([(Opc.mk 2 0 0 1 0 0)]) ([(Opc.mk 3 0 0 1 0 0)]) (Rec.mk false key v 0) ([(Rec.mk true 0 0 0)])).getD 0 default) = (Rec.mk false key (v - key) 0))) (v := .bool (decide ((stepC (chkB 1 ([]) ([(Opc.mk 2 0 0 1 0 0)]) ([(Opc.mk 3 0 0 1 0 0)])) ([(Opc.mk 2 0 0 1 0 0)]) ([(Opc.mk 3 0 0 1 0 0)]) (Rec.mk false key v 0) ([(Rec.mk true 0 0 0)])) = (Rec.mk true 0 0 0)))) rfl (decide_eq_true (by first | (simp [stepO, stepC, run15, cstp, normC, one_ok, one_f, one_g, deadR, *]; done) | (simp [stepO, stepC, run15, cstp, normC, one_ok, one_f, one_g, deadR, *, show ¬ other = key from fun h => absurd h.symm (by assumption)]; done))) rfl) rfl ?_
    refine s_y (v := .bool (decide ((stepC (chkB 1 ([]) ([(Opc.mk 2 0 0 1 0 0)]) ([(Opc.mk 3 0 0 1 0 0)])) ([(Opc.mk 2 0 0 1 0 0)]) ([(Opc.mk 3 0 0 1 0 0)]) (Rec.mk false key v 0) ([(Rec.mk true 0 0 0)])) = (Rec.mk true 0 0 0)))) (y_assign rfl) rfl ?_
    refine wpL_nil ?_
    refine thenS_n ?_
    refine wpS_ret ?_
    refine fin1 (v := .bool (decide ((stepC (chkB 1 ([]) ([(Opc.mk 2 0 0 1 0 0)]) ([(Opc.mk 3 0 0 1 0 0)])) ([(Opc.mk 2 0 0 1 0 0)]) ([(Opc.mk 3 0 0 1 0 0)]) (Rec.mk false key v 0) ([(Rec.mk true 0 0 0)])) = (Rec.mk true 0 0 0)))) (.inr rfl) (.nil) Try.results28 rfl ?_
    exact fun w' hs => ⟨congrArg (fun b => Ending.returned (Value.bool b)) (show (decide ((stepC (chkB 1 ([]) ([(Opc.mk 2 0 0 1 0 0)]) ([(Opc.mk 3 0 0 1 0 0)])) ([(Opc.mk 2 0 0 1 0 0)]) ([(Opc.mk 3 0 0 1 0 0)]) (Rec.mk false key v 0) ([(Rec.mk true 0 0 0)])) = (Rec.mk true 0 0 0))) = true from (decide_eq_true (by first | (simp [stepO, stepC, run15, cstp, normC, one_ok, one_f, one_g, deadR, *]; done) | (simp [stepO, stepC, run15, cstp, normC, one_ok, one_f, one_g, deadR, *, show ¬ other = key from fun h => absurd h.symm (by assumption)]; done)))), hs⟩
  · -- dead false
    refine wpS_skip ?_
    refine thenS_n ?_
    refine wpS_seq ?_
    refine wpS_region ?_
    refine s_y (v := .agg #[.int .i64 1, .slice none 0 0, .slice (some ⟨b_1, 0, none⟩) 1 1, .slice (some ⟨b_3, 0, none⟩) 1 1]) (y_loadN (vs := [.int .i64 1, .slice none 0 0, .slice (some ⟨b_1, 0, none⟩) 1 1, .slice (some ⟨b_3, 0, none⟩) 1 1]) rfl Try.isAgg84 Try.sizeOf84 (ownN (.t (.t .h)) rfl)) rfl ?_
    refine s_y (v := .agg #[.bool false, .int .i64 (key.toInt), .int .i64 (v.toInt), .int .i64 0]) (y_loadN (vs := [.bool false, .int .i64 (key.toInt), .int .i64 (v.toInt), .int .i64 0]) rfl Try.isAgg23 Try.sizeOf23 (ownN (.t .h) rfl)) rfl ?_
    refine s_y (v := .agg #[.bool false, .int .i64 (other.toInt), .int .i64 (wv.toInt), .int .i64 9]) (y_loadN (vs := [.bool false, .int .i64 (other.toInt), .int .i64 (wv.toInt), .int .i64 9]) rfl Try.isAgg23 Try.sizeOf23 (ownN .h rfl)) rfl ?_
    refine s_e rfl ?_
    refine e_bsliceL (e := 23) (m := [(0, .agg #[.bool false, .int .i64 (other.toInt), .int .i64 (wv.toInt), .int .i64 9])]) (l := [.bool false, .int .i64 (other.toInt), .int .i64 (wv.toInt), .int .i64 9]) (evc rfl evn) (fun w => by kernel_rfl) ?_
    intro b_14
    refine s_e rfl ?_
    refine e_call (f := 91) (args := #[.agg #[.int .i64 1, .slice none 0 0, .slice (some ⟨b_1, 0, none⟩) 1 1, .slice (some ⟨b_3, 0, none⟩) 1 1], .agg #[.bool false, .int .i64 (key.toInt), .int .i64 (v.toInt), .int .i64 0], .slice (some ⟨b_14, 0, none⟩) 1 1]) (X := Option Addr × Nat) (A := []) (M := [cel b_14 23 [.bool false, .int .i64 (other.toInt), .int .i64 (wv.toInt), .int .i64 9], cel b_5 23 [.bool false, .int .i64 (other.toInt), .int .i64 (wv.toInt), .int .i64 9], cel b_4 23 [.bool false, .int .i64 (key.toInt), .int .i64 (v.toInt), .int .i64 0], cel b_2 84 [.int .i64 1, .slice none 0 0, .slice (some ⟨b_1, 0, none⟩) 1 1, .slice (some ⟨b_3, 0, none⟩) 1 1], cel b_3 86 [.int .i64 3, .int .i64 0, .int .i64 0, .int .i64 1, .int .i64 0, .int .i64 0], cel b_1 86 [.int .i64 2, .int .i64 0, .int .i64 0, .int .i64 1, .int .i64 0, .int .i64 0]]) (V := fun x => .tuple #[slV (stepO (chkB 1 ([]) ([(Opc.mk 2 0 0 1 0 0)]) ([(Opc.mk 3 0 0 1 0 0)])) ([(Opc.mk 2 0 0 1 0 0)]) ([(Opc.mk 3 0 0 1 0 0)]) (Rec.mk false key v 0) ([(Rec.mk false other wv 9)])) x, .agg #[.bool ((stepC (chkB 1 ([]) ([(Opc.mk 2 0 0 1 0 0)]) ([(Opc.mk 3 0 0 1 0 0)])) ([(Opc.mk 2 0 0 1 0 0)]) ([(Opc.mk 3 0 0 1 0 0)]) (Rec.mk false key v 0) ([(Rec.mk false other wv 9)])).dead), .int .i64 (((stepC (chkB 1 ([]) ([(Opc.mk 2 0 0 1 0 0)]) ([(Opc.mk 3 0 0 1 0 0)])) ([(Opc.mk 2 0 0 1 0 0)]) ([(Opc.mk 3 0 0 1 0 0)]) (Rec.mk false key v 0) ([(Rec.mk false other wv 9)])).key).toInt), .int .i64 (((stepC (chkB 1 ([]) ([(Opc.mk 2 0 0 1 0 0)]) ([(Opc.mk 3 0 0 1 0 0)])) ([(Opc.mk 2 0 0 1 0 0)]) ([(Opc.mk 3 0 0 1 0 0)]) (Rec.mk false key v 0) ([(Rec.mk false other wv 9)])).value).toInt), .int .i64 (((stepC (chkB 1 ([]) ([(Opc.mk 2 0 0 1 0 0)]) ([(Opc.mk 3 0 0 1 0 0)])) ([(Opc.mk 2 0 0 1 0 0)]) ([(Opc.mk 3 0 0 1 0 0)]) (Rec.mk false key v 0) ([(Rec.mk false other wv 9)])).seq).toInt)]]) (A' := fun x => [slR recV 4 23 (stepO (chkB 1 ([]) ([(Opc.mk 2 0 0 1 0 0)]) ([(Opc.mk 3 0 0 1 0 0)])) ([(Opc.mk 2 0 0 1 0 0)]) ([(Opc.mk 3 0 0 1 0 0)]) (Rec.mk false key v 0) ([(Rec.mk false other wv 9)])) x]) (C := fun _ => True) Try.call91 (ev3 rfl rfl rfl) (.p .h (.p .h (.p .h (.p .h (.p .h (.p .h .nil)))))) (fun w hs => cstep_c 1 none (some ⟨b_1, 0, none⟩) (some ⟨b_3, 0, none⟩) 0 0 1 1 1 1 ([]) ([(Opc.mk 2 0 0 1 0 0)]) ([(Opc.mk 3 0 0 1 0 0)]) (Rec.mk false key v 0) (some ⟨b_14, 0, none⟩) 1 1 ([(Rec.mk false other wv 9)]) w (by first | rfl | (simp only [List.length_set]; done) | omega) (Rds.nil _ _) (by omega) (by first | rfl | (simp only [List.length_set]; done) | omega) (celR (.t (.t (.t (.t (.t .h))))) w hs) (by omega) (by first | rfl | (simp only [List.length_set]; done) | omega) (celR (.t (.t (.t (.t .h)))) w hs) (by omega) rfl (celR .h w hs) (by omega)) ?_
    rintro ⟨a_15, c_16⟩ -
    have hso18 : (stepO (chkB 1 ([]) ([(Opc.mk 2 0 0 1 0 0)]) ([(Opc.mk 3 0 0 1 0 0)])) ([(Opc.mk 2 0 0 1 0 0)]) ([(Opc.mk 3 0 0 1 0 0)]) (Rec.mk false key v 0) ([(Rec.mk false other wv 9)])).length = ([(Rec.mk false other wv 9)]).length := stepO_len one_ok
    try simp only [List.length_cons, List.length_nil, Nat.zero_add] at hso18
    refine s_y (v := .tuple #[.slice a_15 ((stepO (chkB 1 ([]) ([(Opc.mk 2 0 0 1 0 0)]) ([(Opc.mk 3 0 0 1 0 0)])) ([(Opc.mk 2 0 0 1 0 0)]) ([(Opc.mk 3 0 0 1 0 0)]) (Rec.mk false key v 0) ([(Rec.mk false other wv 9)])).length) c_16, .agg #[.bool ((stepC (chkB 1 ([]) ([(Opc.mk 2 0 0 1 0 0)]) ([(Opc.mk 3 0 0 1 0 0)])) ([(Opc.mk 2 0 0 1 0 0)]) ([(Opc.mk 3 0 0 1 0 0)]) (Rec.mk false key v 0) ([(Rec.mk false other wv 9)])).dead), .int .i64 (((stepC (chkB 1 ([]) ([(Opc.mk 2 0 0 1 0 0)]) ([(Opc.mk 3 0 0 1 0 0)])) ([(Opc.mk 2 0 0 1 0 0)]) ([(Opc.mk 3 0 0 1 0 0)]) (Rec.mk false key v 0) ([(Rec.mk false other wv 9)])).key).toInt), .int .i64 (((stepC (chkB 1 ([]) ([(Opc.mk 2 0 0 1 0 0)]) ([(Opc.mk 3 0 0 1 0 0)])) ([(Opc.mk 2 0 0 1 0 0)]) ([(Opc.mk 3 0 0 1 0 0)]) (Rec.mk false key v 0) ([(Rec.mk false other wv 9)])).value).toInt), .int .i64 (((stepC (chkB 1 ([]) ([(Opc.mk 2 0 0 1 0 0)]) ([(Opc.mk 3 0 0 1 0 0)])) ([(Opc.mk 2 0 0 1 0 0)]) ([(Opc.mk 3 0 0 1 0 0)]) (Rec.mk false key v 0) ([(Rec.mk false other wv 9)])).seq).toInt)]]) (y_move rfl) rfl ?_
    refine s_y (v := .slice a_15 ((stepO (chkB 1 ([]) ([(Opc.mk 2 0 0 1 0 0)]) ([(Opc.mk 3 0 0 1 0 0)])) ([(Opc.mk 2 0 0 1 0 0)]) ([(Opc.mk 3 0 0 1 0 0)]) (Rec.mk false key v 0) ([(Rec.mk false other wv 9)])).length) c_16) (y_extract (v := .slice a_15 ((stepO (chkB 1 ([]) ([(Opc.mk 2 0 0 1 0 0)]) ([(Opc.mk 3 0 0 1 0 0)])) ([(Opc.mk 2 0 0 1 0 0)]) ([(Opc.mk 3 0 0 1 0 0)]) (Rec.mk false key v 0) ([(Rec.mk false other wv 9)])).length) c_16) rfl rfl) rfl ?_
    refine s_y (v := .agg #[.bool ((stepC (chkB 1 ([]) ([(Opc.mk 2 0 0 1 0 0)]) ([(Opc.mk 3 0 0 1 0 0)])) ([(Opc.mk 2 0 0 1 0 0)]) ([(Opc.mk 3 0 0 1 0 0)]) (Rec.mk false key v 0) ([(Rec.mk false other wv 9)])).dead), .int .i64 (((stepC (chkB 1 ([]) ([(Opc.mk 2 0 0 1 0 0)]) ([(Opc.mk 3 0 0 1 0 0)])) ([(Opc.mk 2 0 0 1 0 0)]) ([(Opc.mk 3 0 0 1 0 0)]) (Rec.mk false key v 0) ([(Rec.mk false other wv 9)])).key).toInt), .int .i64 (((stepC (chkB 1 ([]) ([(Opc.mk 2 0 0 1 0 0)]) ([(Opc.mk 3 0 0 1 0 0)])) ([(Opc.mk 2 0 0 1 0 0)]) ([(Opc.mk 3 0 0 1 0 0)]) (Rec.mk false key v 0) ([(Rec.mk false other wv 9)])).value).toInt), .int .i64 (((stepC (chkB 1 ([]) ([(Opc.mk 2 0 0 1 0 0)]) ([(Opc.mk 3 0 0 1 0 0)])) ([(Opc.mk 2 0 0 1 0 0)]) ([(Opc.mk 3 0 0 1 0 0)]) (Rec.mk false key v 0) ([(Rec.mk false other wv 9)])).seq).toInt)]) (y_extract (v := .agg #[.bool ((stepC (chkB 1 ([]) ([(Opc.mk 2 0 0 1 0 0)]) ([(Opc.mk 3 0 0 1 0 0)])) ([(Opc.mk 2 0 0 1 0 0)]) ([(Opc.mk 3 0 0 1 0 0)]) (Rec.mk false key v 0) ([(Rec.mk false other wv 9)])).dead), .int .i64 (((stepC (chkB 1 ([]) ([(Opc.mk 2 0 0 1 0 0)]) ([(Opc.mk 3 0 0 1 0 0)])) ([(Opc.mk 2 0 0 1 0 0)]) ([(Opc.mk 3 0 0 1 0 0)]) (Rec.mk false key v 0) ([(Rec.mk false other wv 9)])).key).toInt), .int .i64 (((stepC (chkB 1 ([]) ([(Opc.mk 2 0 0 1 0 0)]) ([(Opc.mk 3 0 0 1 0 0)])) ([(Opc.mk 2 0 0 1 0 0)]) ([(Opc.mk 3 0 0 1 0 0)]) (Rec.mk false key v 0) ([(Rec.mk false other wv 9)])).value).toInt), .int .i64 (((stepC (chkB 1 ([]) ([(Opc.mk 2 0 0 1 0 0)]) ([(Opc.mk 3 0 0 1 0 0)])) ([(Opc.mk 2 0 0 1 0 0)]) ([(Opc.mk 3 0 0 1 0 0)]) (Rec.mk false key v 0) ([(Rec.mk false other wv 9)])).seq).toInt)]) rfl rfl) rfl ?_
    refine s_e rfl ?_
    refine e_alloc (l := [.bool false, .int .i64 0, .int .i64 0, .int .i64 0]) Try.zeroValue23 rfl ?_
    intro b_19
    refine s_y (v := .slice a_15 ((stepO (chkB 1 ([]) ([(Opc.mk 2 0 0 1 0 0)]) ([(Opc.mk 3 0 0 1 0 0)])) ([(Opc.mk 2 0 0 1 0 0)]) ([(Opc.mk 3 0 0 1 0 0)]) (Rec.mk false key v 0) ([(Rec.mk false other wv 9)])).length) c_16) (y_assign rfl) rfl ?_
    refine s_e0 ?_
    refine e_store (vs := [.bool ((stepC (chkB 1 ([]) ([(Opc.mk 2 0 0 1 0 0)]) ([(Opc.mk 3 0 0 1 0 0)])) ([(Opc.mk 2 0 0 1 0 0)]) ([(Opc.mk 3 0 0 1 0 0)]) (Rec.mk false key v 0) ([(Rec.mk false other wv 9)])).dead), .int .i64 (((stepC (chkB 1 ([]) ([(Opc.mk 2 0 0 1 0 0)]) ([(Opc.mk 3 0 0 1 0 0)])) ([(Opc.mk 2 0 0 1 0 0)]) ([(Opc.mk 3 0 0 1 0 0)]) (Rec.mk false key v 0) ([(Rec.mk false other wv 9)])).key).toInt), .int .i64 (((stepC (chkB 1 ([]) ([(Opc.mk 2 0 0 1 0 0)]) ([(Opc.mk 3 0 0 1 0 0)])) ([(Opc.mk 2 0 0 1 0 0)]) ([(Opc.mk 3 0 0 1 0 0)]) (Rec.mk false key v 0) ([(Rec.mk false other wv 9)])).value).toInt), .int .i64 (((stepC (chkB 1 ([]) ([(Opc.mk 2 0 0 1 0 0)]) ([(Opc.mk 3 0 0 1 0 0)])) ([(Opc.mk 2 0 0 1 0 0)]) ([(Opc.mk 3 0 0 1 0 0)]) (Rec.mk false key v 0) ([(Rec.mk false other wv 9)])).seq).toInt)]) (l' := [.bool ((stepC (chkB 1 ([]) ([(Opc.mk 2 0 0 1 0 0)]) ([(Opc.mk 3 0 0 1 0 0)])) ([(Opc.mk 2 0 0 1 0 0)]) ([(Opc.mk 3 0 0 1 0 0)]) (Rec.mk false key v 0) ([(Rec.mk false other wv 9)])).dead), .int .i64 (((stepC (chkB 1 ([]) ([(Opc.mk 2 0 0 1 0 0)]) ([(Opc.mk 3 0 0 1 0 0)])) ([(Opc.mk 2 0 0 1 0 0)]) ([(Opc.mk 3 0 0 1 0 0)]) (Rec.mk false key v 0) ([(Rec.mk false other wv 9)])).key).toInt), .int .i64 (((stepC (chkB 1 ([]) ([(Opc.mk 2 0 0 1 0 0)]) ([(Opc.mk 3 0 0 1 0 0)])) ([(Opc.mk 2 0 0 1 0 0)]) ([(Opc.mk 3 0 0 1 0 0)]) (Rec.mk false key v 0) ([(Rec.mk false other wv 9)])).value).toInt), .int .i64 (((stepC (chkB 1 ([]) ([(Opc.mk 2 0 0 1 0 0)]) ([(Opc.mk 3 0 0 1 0 0)])) ([(Opc.mk 2 0 0 1 0 0)]) ([(Opc.mk 3 0 0 1 0 0)]) (Rec.mk false key v 0) ([(Rec.mk false other wv 9)])).seq).toInt)]) rfl rfl rfl rfl Try.sizeOf23 .h (Nat.le_of_ble_eq_true rfl) rfl ?_
    refine wpL_nil ?_
    refine thenS_n ?_
    refine wpS_seq ?_
    refine wpS_seq ?_
    refine wpS_region ?_
    refine s_y (v := .bool true) (y_call (args := #[]) (v := .bool true) Try.call90 ev0 (fun w hs => awake15_c w)) rfl ?_
    refine s_y (v := .bool false) (y_notK (b := true) (c := false) rfl rfl) rfl ?_
    refine s_y (v := .bool false) (y_move rfl) rfl ?_
    refine s_gy (y_move rfl) rfl rfl rfl rfl rfl rfl ?_
    refine s_gy (y_len (ty' := 0) (at_ := #[]) rfl Try.underlying69) rfl rfl rfl rfl rfl rfl ?_
    refine s_gy (y_neq (a := (((stepO (chkB 1 ([]) ([(Opc.mk 2 0 0 1 0 0)]) ([(Opc.mk 3 0 0 1 0 0)])) ([(Opc.mk 2 0 0 1 0 0)]) ([(Opc.mk 3 0 0 1 0 0)]) (Rec.mk false key v 0) ([(Rec.mk false other wv 9)])).length : Nat) : Int)) (b := 1) (c := decide (((stepO (chkB 1 ([]) ([(Opc.mk 2 0 0 1 0 0)]) ([(Opc.mk 3 0 0 1 0 0)])) ([(Opc.mk 2 0 0 1 0 0)]) ([(Opc.mk 3 0 0 1 0 0)]) (Rec.mk false key v 0) ([(Rec.mk false other wv 9)])).length : Nat) ≠ 1)) rfl rfl (decide_eq_decide.2 (by omega))) rfl rfl rfl rfl rfl rfl ?_
    refine s_y (v := .bool (decide (((stepO (chkB 1 ([]) ([(Opc.mk 2 0 0 1 0 0)]) ([(Opc.mk 3 0 0 1 0 0)])) ([(Opc.mk 2 0 0 1 0 0)]) ([(Opc.mk 3 0 0 1 0 0)]) (Rec.mk false key v 0) ([(Rec.mk false other wv 9)])).length : Nat) ≠ 1))) (y_pickF (v := .bool (decide (((stepO (chkB 1 ([]) ([(Opc.mk 2 0 0 1 0 0)]) ([(Opc.mk 3 0 0 1 0 0)])) ([(Opc.mk 2 0 0 1 0 0)]) ([(Opc.mk 3 0 0 1 0 0)]) (Rec.mk false key v 0) ([(Rec.mk false other wv 9)])).length : Nat) ≠ 1))) rfl rfl rfl) rfl ?_
    refine wpL_nil ?_
    refine thenS_n ?_
    refine wpS_cond_F (t := decide (((stepO (chkB 1 ([]) ([(Opc.mk 2 0 0 1 0 0)]) ([(Opc.mk 3 0 0 1 0 0)])) ([(Opc.mk 2 0 0 1 0 0)]) ([(Opc.mk 3 0 0 1 0 0)]) (Rec.mk false key v 0) ([(Rec.mk false other wv 9)])).length : Nat) ≠ 1)) rfl (decide_eq_false (by omega)) ?_
    refine wpS_skip ?_
    refine thenS_n ?_
    refine wpS_seq ?_
    refine wpS_seq ?_
    refine wpS_region ?_
    refine s_y (v := .bool dead) (y_move rfl) rfl ?_
    refine s_y (v := .bool (!dead)) (y_not (b := dead) rfl) rfl ?_
    refine s_y (v := .bool (!dead)) (y_move rfl) rfl ?_
    refine s_gy (y_move rfl) rfl rfl rfl rfl (b' := !dead) rfl (congrArg not b6) ?_
    refine s_gy (y_move rfl) rfl rfl rfl rfl (b' := !dead) rfl (congrArg not b6) ?_
    refine s_gy (y_eql (a := key.toInt) (b := other.toInt) (c := decide (key = other)) rfl rfl (i_eql _ _)) rfl rfl rfl rfl (b' := !dead) rfl (congrArg not b6) ?_
    refine s_y (v := .bool (decide (key = other))) (y_pickT (b := !dead) (v := .bool (decide (key = other))) rfl (congrArg not b6) rfl) rfl ?_
    refine wpL_nil ?_
    refine thenS_n ?_
    refine wpS_cond (t := decide (key = other)) rfl (fun b20 => ?_) (fun b20 => ?_)
    · -- decide (key = other) true
      have p20 := of_decide_eq_true b20
      refine wpS_seq ?_
      refine wpS_region ?_
      refine s_y (v := .slice a_15 ((stepO (chkB 1 ([]) ([(Opc.mk 2 0 0 1 0 0)]) ([(Opc.mk 3 0 0 1 0 0)])) ([(Opc.mk 2 0 0 1 0 0)]) ([(Opc.mk 3 0 0 1 0 0)]) (Rec.mk false key v 0) ([(Rec.mk false other wv 9)])).length) c_16) (y_move rfl) rfl ?_
      refine s_y (v := .pointer (some ⟨aB a_15, aO a_15 + 0 * 4, none⟩)) (y_idx (o := 0 * 4) rfl rfl Try.underlying69 Try.sizeOf23 (oslR (.t .h)) (fl_len recV_len _) (by decide) (by omega) (by omega) (by omega)) rfl ?_
      refine s_y (v := .agg #[.bool (((stepO (chkB 1 ([]) ([(Opc.mk 2 0 0 1 0 0)]) ([(Opc.mk 3 0 0 1 0 0)])) ([(Opc.mk 2 0 0 1 0 0)]) ([(Opc.mk 3 0 0 1 0 0)]) (Rec.mk false key v 0) ([(Rec.mk false other wv 9)])).getD 0 default).dead), .int .i64 ((((stepO (chkB 1 ([]) ([(Opc.mk 2 0 0 1 0 0)]) ([(Opc.mk 3 0 0 1 0 0)])) ([(Opc.mk 2 0 0 1 0 0)]) ([(Opc.mk 3 0 0 1 0 0)]) (Rec.mk false key v 0) ([(Rec.mk false other wv 9)])).getD 0 default).key).toInt), .int .i64 ((((stepO (chkB 1 ([]) ([(Opc.mk 2 0 0 1 0 0)]) ([(Opc.mk 3 0 0 1 0 0)])) ([(Opc.mk 2 0 0 1 0 0)]) ([(Opc.mk 3 0 0 1 0 0)]) (Rec.mk false key v 0) ([(Rec.mk false other wv 9)])).getD 0 default).value).toInt), .int .i64 ((((stepO (chkB 1 ([]) ([(Opc.mk 2 0 0 1 0 0)]) ([(Opc.mk 3 0 0 1 0 0)])) ([(Opc.mk 2 0 0 1 0 0)]) ([(Opc.mk 3 0 0 1 0 0)]) (Rec.mk false key v 0) ([(Rec.mk false other wv 9)])).getD 0 default).seq).toInt)]) (y_loadN (vs := recV ((stepO (chkB 1 ([]) ([(Opc.mk 2 0 0 1 0 0)]) ([(Opc.mk 3 0 0 1 0 0)])) ([(Opc.mk 2 0 0 1 0 0)]) ([(Opc.mk 3 0 0 1 0 0)]) (Rec.mk false key v 0) ([(Rec.mk false other wv 9)])).getD 0 default)) rfl Try.isAgg23 Try.sizeOf23 (rdN (oslR (.t .h)) (fl_getN recV_len (stepO (chkB 1 ([]) ([(Opc.mk 2 0 0 1 0 0)]) ([(Opc.mk 3 0 0 1 0 0)])) ([(Opc.mk 2 0 0 1 0 0)]) ([(Opc.mk 3 0 0 1 0 0)]) (Rec.mk false key v 0) ([(Rec.mk false other wv 9)])) 0 (by first | omega | (simp only [List.length_set, List.length_take, List.length_drop]; done) | (simp only [List.length_set, List.length_take, List.length_drop]; omega))))) rfl ?_
      refine s_y (v := .agg #[.bool true, .int .i64 0, .int .i64 0, .int .i64 0]) (y_buildL (m := [(0, .bool true)]) (vs := #[.bool true, .int .i64 0, .int .i64 0, .int .i64 0]) (evc rfl evn) (fun w => by kernel_rfl)) rfl ?_
      refine s_y (v := .bool (decide (((stepO (chkB 1 ([]) ([(Opc.mk 2 0 0 1 0 0)]) ([(Opc.mk 3 0 0 1 0 0)])) ([(Opc.mk 2 0 0 1 0 0)]) ([(Opc.mk 3 0 0 1 0 0)]) (Rec.mk false key v 0) ([(Rec.mk false other wv 9)])).getD 0 default) = (Rec.mk true 0 0 0)))) (y_eqlS (a := #[.bool (((stepO (chkB 1 ([]) ([(Opc.mk 2 0 0 1 0 0)]) ([(Opc.mk 3 0 0 1 0 0)])) ([(Opc.mk 2 0 0 1 0 0)]) ([(Opc.mk 3 0 0 1 0 0)]) (Rec.mk false key v 0) ([(Rec.mk false other wv 9)])).getD 0 default).dead), .int .i64 ((((stepO (chkB 1 ([]) ([(Opc.mk 2 0 0 1 0 0)]) ([(Opc.mk 3 0 0 1 0 0)])) ([(Opc.mk 2 0 0 1 0 0)]) ([(Opc.mk 3 0 0 1 0 0)]) (Rec.mk false key v 0) ([(Rec.mk false other wv 9)])).getD 0 default).key).toInt), .int .i64 ((((stepO (chkB 1 ([]) ([(Opc.mk 2 0 0 1 0 0)]) ([(Opc.mk 3 0 0 1 0 0)])) ([(Opc.mk 2 0 0 1 0 0)]) ([(Opc.mk 3 0 0 1 0 0)]) (Rec.mk false key v 0) ([(Rec.mk false other wv 9)])).getD 0 default).value).toInt), .int .i64 ((((stepO (chkB 1 ([]) ([(Opc.mk 2 0 0 1 0 0)]) ([(Opc.mk 3 0 0 1 0 0)])) ([(Opc.mk 2 0 0 1 0 0)]) ([(Opc.mk 3 0 0 1 0 0)]) (Rec.mk false key v 0) ([(Rec.mk false other wv 9)])).getD 0 default).seq).toInt)]) (b := #[.bool true, .int .i64 0, .int .i64 0, .int .i64 0]) (c := decide (((stepO (chkB 1 ([]) ([(Opc.mk 2 0 0 1 0 0)]) ([(Opc.mk 3 0 0 1 0 0)])) ([(Opc.mk 2 0 0 1 0 0)]) ([(Opc.mk 3 0 0 1 0 0)]) (Rec.mk false key v 0) ([(Rec.mk false other wv 9)])).getD 0 default) = (Rec.mk true 0 0 0))) Try.eqGuardType23 (fun w => equalR w ((stepO (chkB 1 ([]) ([(Opc.mk 2 0 0 1 0 0)]) ([(Opc.mk 3 0 0 1 0 0)])) ([(Opc.mk 2 0 0 1 0 0)]) ([(Opc.mk 3 0 0 1 0 0)]) (Rec.mk false key v 0) ([(Rec.mk false other wv 9)])).getD 0 default) (Rec.mk true 0 0 0)) rfl rfl) rfl ?_
      refine s_y (v := .bool (decide (((stepO (chkB 1 ([]) ([(Opc.mk 2 0 0 1 0 0)]) ([(Opc.mk 3 0 0 1 0 0)])) ([(Opc.mk 2 0 0 1 0 0)]) ([(Opc.mk 3 0 0 1 0 0)]) (Rec.mk false key v 0) ([(Rec.mk false other wv 9)])).getD 0 default) = (Rec.mk true 0 0 0)))) (y_move rfl) rfl ?_
      refine s_gy (y_loadN (vs := [.bool ((stepC (chkB 1 ([]) ([(Opc.mk 2 0 0 1 0 0)]) ([(Opc.mk 3 0 0 1 0 0)])) ([(Opc.mk 2 0 0 1 0 0)]) ([(Opc.mk 3 0 0 1 0 0)]) (Rec.mk false key v 0) ([(Rec.mk false other wv 9)])).dead), .int .i64 (((stepC (chkB 1 ([]) ([(Opc.mk 2 0 0 1 0 0)]) ([(Opc.mk 3 0 0 1 0 0)])) ([(Opc.mk 2 0 0 1 0 0)]) ([(Opc.mk 3 0 0 1 0 0)]) (Rec.mk false key v 0) ([(Rec.mk false other wv 9)])).key).toInt), .int .i64 (((stepC (chkB 1 ([]) ([(Opc.mk 2 0 0 1 0 0)]) ([(Opc.mk 3 0 0 1 0 0)])) ([(Opc.mk 2 0 0 1 0 0)]) ([(Opc.mk 3 0 0 1 0 0)]) (Rec.mk false key v 0) ([(Rec.mk false other wv 9)])).value).toInt), .int .i64 (((stepC (chkB 1 ([]) ([(Opc.mk 2 0 0 1 0 0)]) ([(Opc.mk 3 0 0 1 0 0)])) ([(Opc.mk 2 0 0 1 0 0)]) ([(Opc.mk 3 0 0 1 0 0)]) (Rec.mk false key v 0) ([(Rec.mk false other wv 9)])).seq).toInt)]) rfl Try.isAgg23 Try.sizeOf23 (ownN .h rfl)) rfl rfl rfl rfl (b' := decide (((stepO (chkB 1 ([]) ([(Opc.mk 2 0 0 1 0 0)]) ([(Opc.mk 3 0 0 1 0 0)])) ([(Opc.mk 2 0 0 1 0 0)]) ([(Opc.mk 3 0 0 1 0 0)]) (Rec.mk false key v 0) ([(Rec.mk false other wv 9)])).getD 0 default) = (Rec.mk true 0 0 0))) rfl (decide_eq_true (by first | (simp [stepO, stepC, run15, cstp, normC, one_ok, one_f, one_g, deadR, *]; done) | (simp [stepO, stepC, run15, cstp, normC, one_ok, one_f, one_g, deadR, *, show ¬ other = key from fun h => absurd h.symm (by assumption)]; done))) ?_
      refine s_gy (y_move rfl) rfl rfl rfl rfl (b' := decide (((stepO (chkB 1 ([]) ([(Opc.mk 2 0 0 1 0 0)]) ([(Opc.mk 3 0 0 1 0 0)])) ([(Opc.mk 2 0 0 1 0 0)]) ([(Opc.mk 3 0 0 1 0 0)]) (Rec.mk false key v 0) ([(Rec.mk false other wv 9)])).getD 0 default) = (Rec.mk true 0 0 0))) rfl (decide_eq_true (by first | (simp [stepO, stepC, run15, cstp, normC, one_ok, one_f, one_g, deadR, *]; done) | (simp [stepO, stepC, run15, cstp, normC, one_ok, one_f, one_g, deadR, *, show ¬ other = key from fun h => absurd h.symm (by assumption)]; done))) ?_
      refine s_gy (y_move rfl) rfl rfl rfl rfl (b' := decide (((stepO (chkB 1 ([]) ([(Opc.mk 2 0 0 1 0 0)]) ([(Opc.mk 3 0 0 1 0 0)])) ([(Opc.mk 2 0 0 1 0 0)]) ([(Opc.mk 3 0 0 1 0 0)]) (Rec.mk false key v 0) ([(Rec.mk false other wv 9)])).getD 0 default) = (Rec.mk true 0 0 0))) rfl (decide_eq_true (by first | (simp [stepO, stepC, run15, cstp, normC, one_ok, one_f, one_g, deadR, *]; done) | (simp [stepO, stepC, run15, cstp, normC, one_ok, one_f, one_g, deadR, *, show ¬ other = key from fun h => absurd h.symm (by assumption)]; done))) ?_
      refine s_gy (y_move rfl) rfl rfl rfl rfl (b' := decide (((stepO (chkB 1 ([]) ([(Opc.mk 2 0 0 1 0 0)]) ([(Opc.mk 3 0 0 1 0 0)])) ([(Opc.mk 2 0 0 1 0 0)]) ([(Opc.mk 3 0 0 1 0 0)]) (Rec.mk false key v 0) ([(Rec.mk false other wv 9)])).getD 0 default) = (Rec.mk true 0 0 0))) rfl (decide_eq_true (by first | (simp [stepO, stepC, run15, cstp, normC, one_ok, one_f, one_g, deadR, *]; done) | (simp [stepO, stepC, run15, cstp, normC, one_ok, one_f, one_g, deadR, *, show ¬ other = key from fun h => absurd h.symm (by assumption)]; done))) ?_
      refine s_gy (y_add (a := v.toInt) (b := wv.toInt) (c := ((v + wv)).toInt) rfl rfl (i_add _ _)) rfl rfl rfl rfl (b' := decide (((stepO (chkB 1 ([]) ([(Opc.mk 2 0 0 1 0 0)]) ([(Opc.mk 3 0 0 1 0 0)])) ([(Opc.mk 2 0 0 1 0 0)]) ([(Opc.mk 3 0 0 1 0 0)]) (Rec.mk false key v 0) ([(Rec.mk false other wv 9)])).getD 0 default) = (Rec.mk true 0 0 0))) rfl (decide_eq_true (by first | (simp [stepO, stepC, run15, cstp, normC, one_ok, one_f, one_g, deadR, *]; done) | (simp [stepO, stepC, run15, cstp, normC, one_ok, one_f, one_g, deadR, *, show ¬ other = key from fun h => absurd h.symm (by assumption)]; done))) ?_
      refine s_gy (y_buildL (m := [(1, .int .i64 (key.toInt)), (2, .int .i64 (((v + wv)).toInt))]) (vs := #[.bool false, .int .i64 (key.toInt), .int .i64 (((v + wv)).toInt), .int .i64 0]) (evc rfl (evc rfl evn)) (fun w => by kernel_rfl)) rfl rfl rfl rfl (b' := decide (((stepO (chkB 1 ([]) ([(Opc.mk 2 0 0 1 0 0)]) ([(Opc.mk 3 0 0 1 0 0)])) ([(Opc.mk 2 0 0 1 0 0)]) ([(Opc.mk 3 0 0 1 0 0)]) (Rec.mk false key v 0) ([(Rec.mk false other wv 9)])).getD 0 default) = (Rec.mk true 0 0 0))) rfl (decide_eq_true (by first | (simp [stepO, stepC, run15, cstp, normC, one_ok, one_f, one_g, deadR, *]; done) | (simp [stepO, stepC, run15, cstp, normC, one_ok, one_f, one_g, deadR, *, show ¬ other = key from fun h => absurd h.symm (by assumption)]; done))) ?_
      refine s_gy (y_eqlS (a := #[.bool ((stepC (chkB 1 ([]) ([(Opc.mk 2 0 0 1 0 0)]) ([(Opc.mk 3 0 0 1 0 0)])) ([(Opc.mk 2 0 0 1 0 0)]) ([(Opc.mk 3 0 0 1 0 0)]) (Rec.mk false key v 0) ([(Rec.mk false other wv 9)])).dead), .int .i64 (((stepC (chkB 1 ([]) ([(Opc.mk 2 0 0 1 0 0)]) ([(Opc.mk 3 0 0 1 0 0)])) ([(Opc.mk 2 0 0 1 0 0)]) ([(Opc.mk 3 0 0 1 0 0)]) (Rec.mk false key v 0) ([(Rec.mk false other wv 9)])).key).toInt), .int .i64 (((stepC (chkB 1 ([]) ([(Opc.mk 2 0 0 1 0 0)]) ([(Opc.mk 3 0 0 1 0 0)])) ([(Opc.mk 2 0 0 1 0 0)]) ([(Opc.mk 3 0 0 1 0 0)]) (Rec.mk false key v 0) ([(Rec.mk false other wv 9)])).value).toInt), .int .i64 (((stepC (chkB 1 ([]) ([(Opc.mk 2 0 0 1 0 0)]) ([(Opc.mk 3 0 0 1 0 0)])) ([(Opc.mk 2 0 0 1 0 0)]) ([(Opc.mk 3 0 0 1 0 0)]) (Rec.mk false key v 0) ([(Rec.mk false other wv 9)])).seq).toInt)]) (b := #[.bool false, .int .i64 (key.toInt), .int .i64 (((v + wv)).toInt), .int .i64 0]) (c := decide ((stepC (chkB 1 ([]) ([(Opc.mk 2 0 0 1 0 0)]) ([(Opc.mk 3 0 0 1 0 0)])) ([(Opc.mk 2 0 0 1 0 0)]) ([(Opc.mk 3 0 0 1 0 0)]) (Rec.mk false key v 0) ([(Rec.mk false other wv 9)])) = (Rec.mk false key (v + wv) 0))) Try.eqGuardType23 (fun w => equalR w (stepC (chkB 1 ([]) ([(Opc.mk 2 0 0 1 0 0)]) ([(Opc.mk 3 0 0 1 0 0)])) ([(Opc.mk 2 0 0 1 0 0)]) ([(Opc.mk 3 0 0 1 0 0)]) (Rec.mk false key v 0) ([(Rec.mk false other wv 9)])) (Rec.mk false key (v + wv) 0)) rfl rfl) rfl rfl rfl rfl (b' := decide (((stepO (chkB 1 ([]) ([(Opc.mk 2 0 0 1 0 0)]) ([(Opc.mk 3 0 0 1 0 0)])) ([(Opc.mk 2 0 0 1 0 0)]) ([(Opc.mk 3 0 0 1 0 0)]) (Rec.mk false key v 0) ([(Rec.mk false other wv 9)])).getD 0 default) = (Rec.mk true 0 0 0))) rfl (decide_eq_true (by first | (simp [stepO, stepC, run15, cstp, normC, one_ok, one_f, one_g, deadR, *]; done) | (simp [stepO, stepC, run15, cstp, normC, one_ok, one_f, one_g, deadR, *, show ¬ other = key from fun h => absurd h.symm (by assumption)]; done))) ?_
      refine s_y (v := .bool (decide ((stepC (chkB 1 ([]) ([(Opc.mk 2 0 0 1 0 0)]) ([(Opc.mk 3 0 0 1 0 0)])) ([(Opc.mk 2 0 0 1 0 0)]) ([(Opc.mk 3 0 0 1 0 0)]) (Rec.mk false key v 0) ([(Rec.mk false other wv 9)])) = (Rec.mk false key (v + wv) 0)))) (y_pickT (b := decide (((stepO (chkB 1 ([]) ([(Opc.mk 2 0 0 1 0 0)]) ([(Opc.mk 3 0 0 1 0 0)])) ([(Opc.mk 2 0 0 1 0 0)]) ([(Opc.mk 3 0 0 1 0 0)]) (Rec.mk false key v 0) ([(Rec.mk false other wv 9)])).getD 0 default) = (Rec.mk true 0 0 0))) (v := .bool (decide ((stepC (chkB 1 ([]) ([(Opc.mk 2 0 0 1 0 0)]) ([(Opc.mk 3 0 0 1 0 0)])) ([(Opc.mk 2 0 0 1 0 0)]) ([(Opc.mk 3 0 0 1 0 0)]) (Rec.mk false key v 0) ([(Rec.mk false other wv 9)])) = (Rec.mk false key (v + wv) 0)))) rfl (decide_eq_true (by first | (simp [stepO, stepC, run15, cstp, normC, one_ok, one_f, one_g, deadR, *]; done) | (simp [stepO, stepC, run15, cstp, normC, one_ok, one_f, one_g, deadR, *, show ¬ other = key from fun h => absurd h.symm (by assumption)]; done))) rfl) rfl ?_
      refine s_y (v := .bool (decide ((stepC (chkB 1 ([]) ([(Opc.mk 2 0 0 1 0 0)]) ([(Opc.mk 3 0 0 1 0 0)])) ([(Opc.mk 2 0 0 1 0 0)]) ([(Opc.mk 3 0 0 1 0 0)]) (Rec.mk false key v 0) ([(Rec.mk false other wv 9)])) = (Rec.mk false key (v + wv) 0)))) (y_assign rfl) rfl ?_
      refine wpL_nil ?_
      refine thenS_n ?_
      refine wpS_ret ?_
      refine thenS_r ?_
      refine fin1 (v := .bool (decide ((stepC (chkB 1 ([]) ([(Opc.mk 2 0 0 1 0 0)]) ([(Opc.mk 3 0 0 1 0 0)])) ([(Opc.mk 2 0 0 1 0 0)]) ([(Opc.mk 3 0 0 1 0 0)]) (Rec.mk false key v 0) ([(Rec.mk false other wv 9)])) = (Rec.mk false key (v + wv) 0)))) (.inr rfl) (.nil) Try.results28 rfl ?_
      exact fun w' hs => ⟨congrArg (fun b => Ending.returned (Value.bool b)) (show (decide ((stepC (chkB 1 ([]) ([(Opc.mk 2 0 0 1 0 0)]) ([(Opc.mk 3 0 0 1 0 0)])) ([(Opc.mk 2 0 0 1 0 0)]) ([(Opc.mk 3 0 0 1 0 0)]) (Rec.mk false key v 0) ([(Rec.mk false other wv 9)])) = (Rec.mk false key (v + wv) 0))) = true from (decide_eq_true (by first | (simp [stepO, stepC, run15, cstp, normC, one_ok, one_f, one_g, deadR, *]; done) | (simp [stepO, stepC, run15, cstp, normC, one_ok, one_f, one_g, deadR, *, show ¬ other = key from fun h => absurd h.symm (by assumption)]; done)))), hs⟩
    · -- decide (key = other) false
      have p20 := of_decide_eq_false b20
      refine wpS_skip ?_
      refine thenS_n ?_
      refine wpS_seq ?_
      refine wpS_region ?_
      refine s_y (v := .int .i64 (other.toInt)) (y_move rfl) rfl ?_
      refine s_y (v := .int .i64 (wv.toInt)) (y_move rfl) rfl ?_
      refine s_y (v := .agg #[.bool false, .int .i64 (other.toInt), .int .i64 (wv.toInt), .int .i64 0]) (y_buildL (m := [(1, .int .i64 (other.toInt)), (2, .int .i64 (wv.toInt))]) (vs := #[.bool false, .int .i64 (other.toInt), .int .i64 (wv.toInt), .int .i64 0]) (evc rfl (evc rfl evn)) (fun w => by kernel_rfl)) rfl ?_
      refine s_e rfl ?_
      refine e_alloc (l := [.bool false, .int .i64 0, .int .i64 0, .int .i64 0]) Try.zeroValue23 rfl ?_
      intro b_21
      refine s_e0 ?_
      refine e_store (vs := [.bool false, .int .i64 (other.toInt), .int .i64 (wv.toInt), .int .i64 0]) (l' := [.bool false, .int .i64 (other.toInt), .int .i64 (wv.toInt), .int .i64 0]) rfl rfl rfl rfl Try.sizeOf23 .h (Nat.le_of_ble_eq_true rfl) rfl ?_
      refine wpL_nil ?_
      refine thenS_n ?_
      refine wpS_seq ?_
      refine wpS_seq ?_
      refine wpS_region ?_
      refine s_y (v := .bool dead) (y_move rfl) rfl ?_
      refine wpL_nil ?_
      refine thenS_n ?_
      refine wpS_cond_F (t := dead) rfl b6 ?_
      refine wpS_skip ?_
      refine thenS_n ?_
      refine wpS_seq ?_
      refine wpS_region ?_
      refine s_y (v := .slice a_15 ((stepO (chkB 1 ([]) ([(Opc.mk 2 0 0 1 0 0)]) ([(Opc.mk 3 0 0 1 0 0)])) ([(Opc.mk 2 0 0 1 0 0)]) ([(Opc.mk 3 0 0 1 0 0)]) (Rec.mk false key v 0) ([(Rec.mk false other wv 9)])).length) c_16) (y_move rfl) rfl ?_
      refine s_y (v := .pointer (some ⟨aB a_15, aO a_15 + 0 * 4, none⟩)) (y_idx (o := 0 * 4) rfl rfl Try.underlying69 Try.sizeOf23 (oslR (.t (.t .h))) (fl_len recV_len _) (by decide) (by omega) (by omega) (by omega)) rfl ?_
      refine s_y (v := .agg #[.bool (((stepO (chkB 1 ([]) ([(Opc.mk 2 0 0 1 0 0)]) ([(Opc.mk 3 0 0 1 0 0)])) ([(Opc.mk 2 0 0 1 0 0)]) ([(Opc.mk 3 0 0 1 0 0)]) (Rec.mk false key v 0) ([(Rec.mk false other wv 9)])).getD 0 default).dead), .int .i64 ((((stepO (chkB 1 ([]) ([(Opc.mk 2 0 0 1 0 0)]) ([(Opc.mk 3 0 0 1 0 0)])) ([(Opc.mk 2 0 0 1 0 0)]) ([(Opc.mk 3 0 0 1 0 0)]) (Rec.mk false key v 0) ([(Rec.mk false other wv 9)])).getD 0 default).key).toInt), .int .i64 ((((stepO (chkB 1 ([]) ([(Opc.mk 2 0 0 1 0 0)]) ([(Opc.mk 3 0 0 1 0 0)])) ([(Opc.mk 2 0 0 1 0 0)]) ([(Opc.mk 3 0 0 1 0 0)]) (Rec.mk false key v 0) ([(Rec.mk false other wv 9)])).getD 0 default).value).toInt), .int .i64 ((((stepO (chkB 1 ([]) ([(Opc.mk 2 0 0 1 0 0)]) ([(Opc.mk 3 0 0 1 0 0)])) ([(Opc.mk 2 0 0 1 0 0)]) ([(Opc.mk 3 0 0 1 0 0)]) (Rec.mk false key v 0) ([(Rec.mk false other wv 9)])).getD 0 default).seq).toInt)]) (y_loadN (vs := recV ((stepO (chkB 1 ([]) ([(Opc.mk 2 0 0 1 0 0)]) ([(Opc.mk 3 0 0 1 0 0)])) ([(Opc.mk 2 0 0 1 0 0)]) ([(Opc.mk 3 0 0 1 0 0)]) (Rec.mk false key v 0) ([(Rec.mk false other wv 9)])).getD 0 default)) rfl Try.isAgg23 Try.sizeOf23 (rdN (oslR (.t (.t .h))) (fl_getN recV_len (stepO (chkB 1 ([]) ([(Opc.mk 2 0 0 1 0 0)]) ([(Opc.mk 3 0 0 1 0 0)])) ([(Opc.mk 2 0 0 1 0 0)]) ([(Opc.mk 3 0 0 1 0 0)]) (Rec.mk false key v 0) ([(Rec.mk false other wv 9)])) 0 (by first | omega | (simp only [List.length_set, List.length_take, List.length_drop]; done) | (simp only [List.length_set, List.length_take, List.length_drop]; omega))))) rfl ?_
      refine s_y (v := .int .i64 (key.toInt)) (y_move rfl) rfl ?_
      refine s_y (v := .int .i64 (v.toInt)) (y_move rfl) rfl ?_
      refine s_y (v := .int .i64 (key.toInt)) (y_move rfl) rfl ?_
      refine s_y (v := .int .i64 (((v - key)).toInt)) (y_sub (a := v.toInt) (b := key.toInt) (c := ((v - key)).toInt) rfl rfl (i_sub _ _)) rfl ?_
      refine s_y (v := .agg #[.bool false, .int .i64 (key.toInt), .int .i64 (((v - key)).toInt), .int .i64 0]) (y_buildL (m := [(1, .int .i64 (key.toInt)), (2, .int .i64 (((v - key)).toInt))]) (vs := #[.bool false, .int .i64 (key.toInt), .int .i64 (((v - key)).toInt), .int .i64 0]) (evc rfl (evc rfl evn)) (fun w => by kernel_rfl)) rfl ?_
      refine s_y (v := .bool (decide (((stepO (chkB 1 ([]) ([(Opc.mk 2 0 0 1 0 0)]) ([(Opc.mk 3 0 0 1 0 0)])) ([(Opc.mk 2 0 0 1 0 0)]) ([(Opc.mk 3 0 0 1 0 0)]) (Rec.mk false key v 0) ([(Rec.mk false other wv 9)])).getD 0 default) = (Rec.mk false key (v - key) 0)))) (y_eqlS (a := #[.bool (((stepO (chkB 1 ([]) ([(Opc.mk 2 0 0 1 0 0)]) ([(Opc.mk 3 0 0 1 0 0)])) ([(Opc.mk 2 0 0 1 0 0)]) ([(Opc.mk 3 0 0 1 0 0)]) (Rec.mk false key v 0) ([(Rec.mk false other wv 9)])).getD 0 default).dead), .int .i64 ((((stepO (chkB 1 ([]) ([(Opc.mk 2 0 0 1 0 0)]) ([(Opc.mk 3 0 0 1 0 0)])) ([(Opc.mk 2 0 0 1 0 0)]) ([(Opc.mk 3 0 0 1 0 0)]) (Rec.mk false key v 0) ([(Rec.mk false other wv 9)])).getD 0 default).key).toInt), .int .i64 ((((stepO (chkB 1 ([]) ([(Opc.mk 2 0 0 1 0 0)]) ([(Opc.mk 3 0 0 1 0 0)])) ([(Opc.mk 2 0 0 1 0 0)]) ([(Opc.mk 3 0 0 1 0 0)]) (Rec.mk false key v 0) ([(Rec.mk false other wv 9)])).getD 0 default).value).toInt), .int .i64 ((((stepO (chkB 1 ([]) ([(Opc.mk 2 0 0 1 0 0)]) ([(Opc.mk 3 0 0 1 0 0)])) ([(Opc.mk 2 0 0 1 0 0)]) ([(Opc.mk 3 0 0 1 0 0)]) (Rec.mk false key v 0) ([(Rec.mk false other wv 9)])).getD 0 default).seq).toInt)]) (b := #[.bool false, .int .i64 (key.toInt), .int .i64 (((v - key)).toInt), .int .i64 0]) (c := decide (((stepO (chkB 1 ([]) ([(Opc.mk 2 0 0 1 0 0)]) ([(Opc.mk 3 0 0 1 0 0)])) ([(Opc.mk 2 0 0 1 0 0)]) ([(Opc.mk 3 0 0 1 0 0)]) (Rec.mk false key v 0) ([(Rec.mk false other wv 9)])).getD 0 default) = (Rec.mk false key (v - key) 0))) Try.eqGuardType23 (fun w => equalR w ((stepO (chkB 1 ([]) ([(Opc.mk 2 0 0 1 0 0)]) ([(Opc.mk 3 0 0 1 0 0)])) ([(Opc.mk 2 0 0 1 0 0)]) ([(Opc.mk 3 0 0 1 0 0)]) (Rec.mk false key v 0) ([(Rec.mk false other wv 9)])).getD 0 default) (Rec.mk false key (v - key) 0)) rfl rfl) rfl ?_
      refine s_y (v := .bool (decide (((stepO (chkB 1 ([]) ([(Opc.mk 2 0 0 1 0 0)]) ([(Opc.mk 3 0 0 1 0 0)])) ([(Opc.mk 2 0 0 1 0 0)]) ([(Opc.mk 3 0 0 1 0 0)]) (Rec.mk false key v 0) ([(Rec.mk false other wv 9)])).getD 0 default) = (Rec.mk false key (v - key) 0)))) (y_move rfl) rfl ?_
      refine s_gy (y_loadN (vs := [.bool ((stepC (chkB 1 ([]) ([(Opc.mk 2 0 0 1 0 0)]) ([(Opc.mk 3 0 0 1 0 0)])) ([(Opc.mk 2 0 0 1 0 0)]) ([(Opc.mk 3 0 0 1 0 0)]) (Rec.mk false key v 0) ([(Rec.mk false other wv 9)])).dead), .int .i64 (((stepC (chkB 1 ([]) ([(Opc.mk 2 0 0 1 0 0)]) ([(Opc.mk 3 0 0 1 0 0)])) ([(Opc.mk 2 0 0 1 0 0)]) ([(Opc.mk 3 0 0 1 0 0)]) (Rec.mk false key v 0) ([(Rec.mk false other wv 9)])).key).toInt), .int .i64 (((stepC (chkB 1 ([]) ([(Opc.mk 2 0 0 1 0 0)]) ([(Opc.mk 3 0 0 1 0 0)])) ([(Opc.mk 2 0 0 1 0 0)]) ([(Opc.mk 3 0 0 1 0 0)]) (Rec.mk false key v 0) ([(Rec.mk false other wv 9)])).value).toInt), .int .i64 (((stepC (chkB 1 ([]) ([(Opc.mk 2 0 0 1 0 0)]) ([(Opc.mk 3 0 0 1 0 0)])) ([(Opc.mk 2 0 0 1 0 0)]) ([(Opc.mk 3 0 0 1 0 0)]) (Rec.mk false key v 0) ([(Rec.mk false other wv 9)])).seq).toInt)]) rfl Try.isAgg23 Try.sizeOf23 (ownN (.t .h) rfl)) rfl rfl rfl rfl (b' := decide (((stepO (chkB 1 ([]) ([(Opc.mk 2 0 0 1 0 0)]) ([(Opc.mk 3 0 0 1 0 0)])) ([(Opc.mk 2 0 0 1 0 0)]) ([(Opc.mk 3 0 0 1 0 0)]) (Rec.mk false key v 0) ([(Rec.mk false other wv 9)])).getD 0 default) = (Rec.mk false key (v - key) 0))) rfl (decide_eq_true (by first | (simp [stepO, stepC, run15, cstp, normC, one_ok, one_f, one_g, deadR, *]; done) | (simp [stepO, stepC, run15, cstp, normC, one_ok, one_f, one_g, deadR, *, show ¬ other = key from fun h => absurd h.symm (by assumption)]; done))) ?_
      refine s_gy (y_loadN (vs := [.bool false, .int .i64 (other.toInt), .int .i64 (wv.toInt), .int .i64 0]) rfl Try.isAgg23 Try.sizeOf23 (ownN .h rfl)) rfl rfl rfl rfl (b' := decide (((stepO (chkB 1 ([]) ([(Opc.mk 2 0 0 1 0 0)]) ([(Opc.mk 3 0 0 1 0 0)])) ([(Opc.mk 2 0 0 1 0 0)]) ([(Opc.mk 3 0 0 1 0 0)]) (Rec.mk false key v 0) ([(Rec.mk false other wv 9)])).getD 0 default) = (Rec.mk false key (v - key) 0))) rfl (decide_eq_true (by first | (simp [stepO, stepC, run15, cstp, normC, one_ok, one_f, one_g, deadR, *]; done) | (simp [stepO, stepC, run15, cstp, normC, one_ok, one_f, one_g, deadR, *, show ¬ other = key from fun h => absurd h.symm (by assumption)]; done))) ?_
      refine s_gy (y_eqlS (a := #[.bool ((stepC (chkB 1 ([]) ([(Opc.mk 2 0 0 1 0 0)]) ([(Opc.mk 3 0 0 1 0 0)])) ([(Opc.mk 2 0 0 1 0 0)]) ([(Opc.mk 3 0 0 1 0 0)]) (Rec.mk false key v 0) ([(Rec.mk false other wv 9)])).dead), .int .i64 (((stepC (chkB 1 ([]) ([(Opc.mk 2 0 0 1 0 0)]) ([(Opc.mk 3 0 0 1 0 0)])) ([(Opc.mk 2 0 0 1 0 0)]) ([(Opc.mk 3 0 0 1 0 0)]) (Rec.mk false key v 0) ([(Rec.mk false other wv 9)])).key).toInt), .int .i64 (((stepC (chkB 1 ([]) ([(Opc.mk 2 0 0 1 0 0)]) ([(Opc.mk 3 0 0 1 0 0)])) ([(Opc.mk 2 0 0 1 0 0)]) ([(Opc.mk 3 0 0 1 0 0)]) (Rec.mk false key v 0) ([(Rec.mk false other wv 9)])).value).toInt), .int .i64 (((stepC (chkB 1 ([]) ([(Opc.mk 2 0 0 1 0 0)]) ([(Opc.mk 3 0 0 1 0 0)])) ([(Opc.mk 2 0 0 1 0 0)]) ([(Opc.mk 3 0 0 1 0 0)]) (Rec.mk false key v 0) ([(Rec.mk false other wv 9)])).seq).toInt)]) (b := #[.bool false, .int .i64 (other.toInt), .int .i64 (wv.toInt), .int .i64 0]) (c := decide ((stepC (chkB 1 ([]) ([(Opc.mk 2 0 0 1 0 0)]) ([(Opc.mk 3 0 0 1 0 0)])) ([(Opc.mk 2 0 0 1 0 0)]) ([(Opc.mk 3 0 0 1 0 0)]) (Rec.mk false key v 0) ([(Rec.mk false other wv 9)])) = (Rec.mk false other wv 0))) Try.eqGuardType23 (fun w => equalR w (stepC (chkB 1 ([]) ([(Opc.mk 2 0 0 1 0 0)]) ([(Opc.mk 3 0 0 1 0 0)])) ([(Opc.mk 2 0 0 1 0 0)]) ([(Opc.mk 3 0 0 1 0 0)]) (Rec.mk false key v 0) ([(Rec.mk false other wv 9)])) (Rec.mk false other wv 0)) rfl rfl) rfl rfl rfl rfl (b' := decide (((stepO (chkB 1 ([]) ([(Opc.mk 2 0 0 1 0 0)]) ([(Opc.mk 3 0 0 1 0 0)])) ([(Opc.mk 2 0 0 1 0 0)]) ([(Opc.mk 3 0 0 1 0 0)]) (Rec.mk false key v 0) ([(Rec.mk false other wv 9)])).getD 0 default) = (Rec.mk false key (v - key) 0))) rfl (decide_eq_true (by first | (simp [stepO, stepC, run15, cstp, normC, one_ok, one_f, one_g, deadR, *]; done) | (simp [stepO, stepC, run15, cstp, normC, one_ok, one_f, one_g, deadR, *, show ¬ other = key from fun h => absurd h.symm (by assumption)]; done))) ?_
      refine s_y (v := .bool (decide ((stepC (chkB 1 ([]) ([(Opc.mk 2 0 0 1 0 0)]) ([(Opc.mk 3 0 0 1 0 0)])) ([(Opc.mk 2 0 0 1 0 0)]) ([(Opc.mk 3 0 0 1 0 0)]) (Rec.mk false key v 0) ([(Rec.mk false other wv 9)])) = (Rec.mk false other wv 0)))) (y_pickT (b := decide (((stepO (chkB 1 ([]) ([(Opc.mk 2 0 0 1 0 0)]) ([(Opc.mk 3 0 0 1 0 0)])) ([(Opc.mk 2 0 0 1 0 0)]) ([(Opc.mk 3 0 0 1 0 0)]) (Rec.mk false key v 0) ([(Rec.mk false other wv 9)])).getD 0 default) = (Rec.mk false key (v - key) 0))) (v := .bool (decide ((stepC (chkB 1 ([]) ([(Opc.mk 2 0 0 1 0 0)]) ([(Opc.mk 3 0 0 1 0 0)])) ([(Opc.mk 2 0 0 1 0 0)]) ([(Opc.mk 3 0 0 1 0 0)]) (Rec.mk false key v 0) ([(Rec.mk false other wv 9)])) = (Rec.mk false other wv 0)))) rfl (decide_eq_true (by first | (simp [stepO, stepC, run15, cstp, normC, one_ok, one_f, one_g, deadR, *]; done) | (simp [stepO, stepC, run15, cstp, normC, one_ok, one_f, one_g, deadR, *, show ¬ other = key from fun h => absurd h.symm (by assumption)]; done))) rfl) rfl ?_
      refine s_y (v := .bool (decide ((stepC (chkB 1 ([]) ([(Opc.mk 2 0 0 1 0 0)]) ([(Opc.mk 3 0 0 1 0 0)])) ([(Opc.mk 2 0 0 1 0 0)]) ([(Opc.mk 3 0 0 1 0 0)]) (Rec.mk false key v 0) ([(Rec.mk false other wv 9)])) = (Rec.mk false other wv 0)))) (y_assign rfl) rfl ?_
      refine wpL_nil ?_
      refine thenS_n ?_
      refine wpS_ret ?_
      refine fin1 (v := .bool (decide ((stepC (chkB 1 ([]) ([(Opc.mk 2 0 0 1 0 0)]) ([(Opc.mk 3 0 0 1 0 0)])) ([(Opc.mk 2 0 0 1 0 0)]) ([(Opc.mk 3 0 0 1 0 0)]) (Rec.mk false key v 0) ([(Rec.mk false other wv 9)])) = (Rec.mk false other wv 0)))) (.inr rfl) (.nil) Try.results28 rfl ?_
      exact fun w' hs => ⟨congrArg (fun b => Ending.returned (Value.bool b)) (show (decide ((stepC (chkB 1 ([]) ([(Opc.mk 2 0 0 1 0 0)]) ([(Opc.mk 3 0 0 1 0 0)])) ([(Opc.mk 2 0 0 1 0 0)]) ([(Opc.mk 3 0 0 1 0 0)]) (Rec.mk false key v 0) ([(Rec.mk false other wv 9)])) = (Rec.mk false other wv 0))) = true from (decide_eq_true (by first | (simp [stepO, stepC, run15, cstp, normC, one_ok, one_f, one_g, deadR, *]; done) | (simp [stepO, stepC, run15, cstp, normC, one_ok, one_f, one_g, deadR, *, show ¬ other = key from fun h => absurd h.symm (by assumption)]; done)))), hs⟩

end Go.Proofs.Ytldkjjnjdjfipaa
