/- RPspec: a part of it: what its walk and its plain law need. -/
import Derived.WalkKit
import Derived.WalkSpells
import Derived.WalkLawsBesides
import Derived.TacticsIn
import Derived.OrdersIn
import Derived.RangeFuncIn
import Derived.RangeFuncLeaves
import Derived.RangeFuncRecord
import Derived.KernelRfl
import Derived.Maps.AppendAt
import Derived.Laws.Cover3
import Derived.Laws.MakeOwn
import Derived.Test.YtldkjjnjdjfipaaRows
import Derived.ChangeKeysEq
import Derived.Test.YtldkjjnjdjfipaaZPS3
namespace Go.Proofs.Ytldkjjnjdjfipaa
open Go Go.RowKit
set_option linter.unusedVariables false
set_option linter.unusedSimpArgs false
set_option maxRecDepth 10000
set_option maxHeartbeats 1000000
theorem valsR_c (a : Option Addr) (n c : Nat) (w : World) : Makes Try.prog 177 #[.slice a n c] w [] (X := Nat) (fun x : Nat => .func (.func 230) #[] #[.pointer (some ⟨x, 0, none⟩)]) (fun x : Nat => [cel x 69 [.slice a n c]]) (fun _ => True) := by
 refine calls_S (n := 4) (σ0 := (upd fr0 0 (.slice a n c))) (D := []) (A := []) Try.func177 rfl Try.ntmps177 rfl (a1_fr _) (SH.start w) ?_
 refine wpS_seq ?_
 refine wpS_region ?_
 refine s_e rfl ?_
 refine e_box (v := .slice a n c) (l := [.slice a n c]) rfl rfl ?_
 intro b_1
 refine s_y (v := .nilFunc) (y_assign rfl) rfl ?_
 refine wpL_nil ?_
 refine thenS_n ?_
 refine wpS_seq ?_
 refine wpS_region ?_
 refine s_y (v := .func (.func 230) #[] #[.pointer (some ⟨b_1, 0, none⟩)]) (y_makeFunc (a := #[]) (b := #[.pointer (some ⟨b_1, 0, none⟩)]) ev0 (ev1 rfl)) rfl ?_
 refine s_y (v := .func (.func 230) #[] #[.pointer (some ⟨b_1, 0, none⟩)]) (y_assign rfl) rfl ?_
 refine wpL_nil ?_
 refine thenS_n ?_
 refine wpS_ret ?_
 refine fin1 (M := [cel b_1 69 [.slice a n c]]) (v := .func (.func 230) #[] #[.pointer (some ⟨b_1, 0, none⟩)]) (.inr rfl) (.p .h .nil) Try.results177 rfl ?_
 exact fun w' hs => ⟨b_1, rfl, hs, trivial⟩
theorem valsR_it (b : Nat) (a : Option Addr) (n c : Nat) (vs : List Rec) (w : World) (hb : w.cell? ⟨b, 0, none⟩ = some (.slice a n c)) (hn : vs.length = n) (hr : Rds w a (vs.flatMap recV)) (hbn : n ≤ 1000000) : Iter Try.prog 230 #[.pointer (some ⟨b, 0, none⟩)] (fun k => #[.agg #[.bool ((vs.getD k default).dead), .int .i64 (((vs.getD k default).key).toInt), .int .i64 (((vs.getD k default).value).toInt), .int .i64 (((vs.getD k default).seq).toInt)]]) n (fun z => z = b ∨ 0 < vs.length ∧ z = aB a) w := by
 intro yv I E A hrd hI hA hY
 show Calls Try.prog 230 #[yv, .pointer (some ⟨b, 0, none⟩)] w _
 refine calls_S (n := 16) (σ0 := (upd (upd fr0 0 yv) 1 (.pointer (some ⟨b, 0, none⟩)))) (D := (A.flatMap Res.fp)) (A := A) Try.func230 rfl Try.ntmps230 rfl (a2_fr _ _) hA ?_
 refine wpS_seq ?_
 refine wpS_region ?_
 refine s_y (v := .slice a n c) (y_load1 rfl Try.isAgg69 (old1 hb (hrd _ (.inl rfl)))) rfl ?_
 refine s_y (v := .int .i64 ((n : Nat) : Int)) (y_len (ty' := 0) (at_ := #[]) rfl Try.underlying69) rfl ?_
 refine s_y (v := .int .i64 0) (y_move rfl) rfl ?_
 refine wpL_nil ?_
 refine thenS_n ?_
 refine wpS_block ?_
 refine wpS_loop (fun mez ds σ L => ∃ i : Nat, ∃ A1 : List Res, mez = n - i ∧ (i ≤ n) ∧ (I i A1) ∧ ds = [] ∧ σ 0 = yv ∧ σ 5 = .slice a n c ∧ σ 6 = .int .i64 ((n : Nat) : Int) ∧ σ 7 = .int .i64 ((i : Nat) : Int) ∧ Ent L A1) (m0 := n - 0) ⟨0, A, rfl, by omega, hI, rfl, rfl, rfl, rfl, rfl, (Ent.refl _)⟩ ?_
 rintro mez ds σ L ⟨i, A1, hm_1, hf0_1, hf1_1, rfl, h0_1, h5_1, h6_1, h7_1, hE_1⟩
 refine wpS_ent hE_1 ?_; clear hE_1
 refine wpS_seq ?_
 refine wpS_region ?_
 refine s_y (v := .bool (decide (i < n))) (y_lss (a := ((i : Nat) : Int)) (b := ((n : Nat) : Int)) (c := decide (i < n)) h7_1 h6_1 (decide_eq_decide.2 (by omega))) rfl ?_
 refine wpL_nil ?_
 refine thenS_n ?_
 refine wpS_seq ?_
 refine wpS_cond (t := decide (i < n)) rfl (fun b2 => ?_) (fun b2 => ?_)
 ·
  have p2 := of_decide_eq_true b2
  refine wpS_skip ?_
  refine thenS_n ?_
  refine wpS_seq ?_
  refine wpS_block ?_
  refine wpS_seq ?_
  refine wpS_region ?_
  refine s_y (v := .pointer (some ⟨aB a, aO a + i * 4, none⟩)) (y_idx (o := i * 4) h5_1 h7_1 Try.underlying69 Try.sizeOf23 (oldRD' hr (fun hl => hrd _ (.inr ⟨fl_pos' recV_len hl, rfl⟩))) ((fl_len recV_len _).trans (by first | omega | (simp only [List.length_set, List.length_take, List.length_drop]; done) | (simp only [List.length_set, List.length_take, List.length_drop]; omega))) (by decide) (by omega) (by omega) (by omega)) rfl ?_
  refine s_y (v := .agg #[.bool ((vs.getD i default).dead), .int .i64 (((vs.getD i default).key).toInt), .int .i64 (((vs.getD i default).value).toInt), .int .i64 (((vs.getD i default).seq).toInt)]) (y_loadN (vs := recV (vs.getD i default)) rfl Try.isAgg23 Try.sizeOf23 (rdN (oldRD' hr (fun hl => hrd _ (.inr ⟨fl_pos' recV_len hl, rfl⟩))) (fl_getN recV_len vs i (by first | omega | (simp only [List.length_set, List.length_take, List.length_drop]; done) | (simp only [List.length_set, List.length_take, List.length_drop]; omega))))) rfl ?_
  refine s_e rfl ?_
  refine e_alloc (l := [.bool false, .int .i64 0, .int .i64 0, .int .i64 0]) Try.zeroValue23 rfl ?_
  intro b_3
  refine s_e0 ?_
  refine e_store (vs := [.bool ((vs.getD i default).dead), .int .i64 (((vs.getD i default).key).toInt), .int .i64 (((vs.getD i default).value).toInt), .int .i64 (((vs.getD i default).seq).toInt)]) (l' := [.bool ((vs.getD i default).dead), .int .i64 (((vs.getD i default).key).toInt), .int .i64 (((vs.getD i default).value).toInt), .int .i64 (((vs.getD i default).seq).toInt)]) rfl rfl rfl rfl Try.sizeOf23 .h (Nat.le_of_ble_eq_true rfl) rfl ?_
  refine wpL_nil ?_
  refine thenS_n ?_
  refine wpS_seq ?_
  refine wpS_region ?_
  refine s_y (v := yv) (y_move h0_1) rfl ?_
  refine s_y (v := .agg #[.bool ((vs.getD i default).dead), .int .i64 (((vs.getD i default).key).toInt), .int .i64 (((vs.getD i default).value).toInt), .int .i64 (((vs.getD i default).seq).toInt)]) (y_loadN rfl Try.isAgg23 Try.sizeOf23 (ownN .h rfl)) rfl ?_
  refine s_e rfl ?_
  refine e_yield (own := [cel b_3 23 [.bool ((vs.getD i default).dead), .int .i64 (((vs.getD i default).key).toInt), .int .i64 (((vs.getD i default).value).toInt), .int .i64 (((vs.getD i default).seq).toInt)]]) (A := A1) (enc := (fun k => #[.agg #[.bool ((vs.getD k default).dead), .int .i64 (((vs.getD k default).key).toInt), .int .i64 (((vs.getD k default).value).toInt), .int .i64 (((vs.getD k default).seq).toInt)]])) (k := i) hY rfl (ev1 rfl) (by omega) (by assumption) ?_ ?_
  ·intro A_4 hI_5
   refine s_y (v := .bool false) (y_notK (b := true) (c := false) rfl rfl) rfl ?_
   refine wpL_nil ?_
   refine thenS_n ?_
   refine wpS_cond_f rfl ?_
   refine wpS_skip ?_
   refine blockS_n ?_
   refine thenS_n ?_
   refine wpS_region ?_
   refine s_y (v := .int .i64 (((i + 1) : Nat) : Int)) (y_add (a := ((i : Nat) : Int)) (b := 1) h7_1 rfl (wI (by omega) (by omega) (by omega))) rfl ?_
   refine s_y (v := .int .i64 (((i + 1) : Nat) : Int)) (y_move rfl) rfl ?_
   refine wpL_nil ?_
   refine thenS_n ?_
   exact ⟨_, by omega, ⟨(i + 1), A_4, rfl, by omega, hI_5, rfl, h0_1, h5_1, h6_1, rfl, (Ent.skip _ (Ent.refl _))⟩⟩
  ·intro A_6 hI_7
   refine s_y (v := .bool true) (y_notK (b := false) (c := true) rfl rfl) rfl ?_
   refine wpL_nil ?_
   refine thenS_n ?_
   refine wpS_cond_t rfl ?_
   refine wpS_ret ?_
   refine blockS_r ?_
   refine thenS_r ?_
   refine thenS_r ?_
   refine blockS_r ?_
   exact fin0 (.inr rfl) (Ent.skip _ (Ent.refl _)) Try.results230 (fun w' hs => ⟨rfl, A_6, hs, .inr ⟨i, by omega, hI_7⟩⟩)
 ·
  have p2 := of_decide_eq_false b2
  refine wpS_exit ?_
  refine thenS_x ?_
  refine thenS_x ?_
  refine blockS_h ?_
  exact fin0 (.inl rfl) (Ent.refl _) Try.results230 (fun w' hs => ⟨rfl, A1, hs, .inl (by rw [show n = i by omega]; assumption)⟩)
theorem valsR_at (b : Nat) (a : Option Addr) (n c : Nat) (vs : List Rec) (w : World) (hb : w.cell? ⟨b, 0, none⟩ = some (.slice a n c)) (hn : vs.length = n) (hr : Rds w a (vs.flatMap recV)) (hbn : n ≤ 1000000) :
    IterAt Try.prog 230 #[.pointer (some ⟨b, 0, none⟩)] (fun k => #[.agg #[.bool (((vs.getD k default)).dead), .int .i64 ((((vs.getD k default)).key).toInt), .int .i64 ((((vs.getD k default)).value).toInt), .int .i64 ((((vs.getD k default)).seq).toInt)]]) n (fun z => z = b ∨ 0 < vs.length ∧ z = aB a) w :=
  ⟨fun w' hs => valsR_it b a n c vs w' (cell_old hb hs) hn (hr.below (SH.below hs)) hbn, by
    rintro z (rfl | ⟨hl, rfl⟩)
    · exact cell_lt hb
    · exact rdBlk hr (fl_pos recV_len (by decide) hl)⟩
theorem cstep_c (kz : Int) (a1 a2 a3 : Option Addr) (n1 c1 n2 c2 n3 c3 : Nat) (l1 l2 l3 : List Opc) (cr : Rec) (ga : Option Addr) (gn gc : Nat) (l : List Rec) (w : World) (hn1 : l1.length = n1) (hr1 : Rds w a1 (l1.flatMap opcV)) (hb1 : n1 ≤ 1000000) (hn2 : l2.length = n2) (hr2 : Rds w a2 (l2.flatMap opcV)) (hb2 : n2 ≤ 1000000) (hn3 : l3.length = n3) (hr3 : Rds w a3 (l3.flatMap opcV)) (hb3 : n3 ≤ 1000000) (hn : l.length = gn) (hr : Rds w ga (l.flatMap recV)) (hb : gn ≤ 1000000) : Makes Try.prog 91 #[.agg #[.int .i64 kz, .slice a1 n1 c1, .slice a2 n2 c2, .slice a3 n3 c3], .agg #[.bool cr.dead, .int .i64 cr.key.toInt, .int .i64 cr.value.toInt, .int .i64 cr.seq.toInt], .slice ga gn gc] w [] (X := Option Addr × Nat) (fun x => .tuple #[slV (stepO (chkB kz l1 l2 l3) l2 l3 cr l) x, .agg #[.bool ((stepC (chkB kz l1 l2 l3) l2 l3 cr l).dead), .int .i64 (((stepC (chkB kz l1 l2 l3) l2 l3 cr l).key).toInt), .int .i64 (((stepC (chkB kz l1 l2 l3) l2 l3 cr l).value).toInt), .int .i64 (((stepC (chkB kz l1 l2 l3) l2 l3 cr l).seq).toInt)]]) (fun x => [slR recV 4 23 (stepO (chkB kz l1 l2 l3) l2 l3 cr l) x]) (fun _ => True) := by
 refine calls_S (n := 80) (σ0 := (upd (upd (upd fr0 0 (.agg #[.int .i64 kz, .slice a1 n1 c1, .slice a2 n2 c2, .slice a3 n3 c3])) 1 (.agg #[.bool cr.dead, .int .i64 cr.key.toInt, .int .i64 cr.value.toInt, .int .i64 cr.seq.toInt])) 2 (.slice ga gn gc))) (D := []) (A := []) Try.func91 rfl Try.ntmps91 rfl (a3_fr _ _ _) (SH.start w) ?_
 refine wpS_seq ?_
 refine wpS_region ?_
 refine s_e rfl ?_
 refine e_box (v := .agg #[.int .i64 kz, .slice a1 n1 c1, .slice a2 n2 c2, .slice a3 n3 c3]) (l := [.int .i64 kz, .slice a1 n1 c1, .slice a2 n2 c2, .slice a3 n3 c3]) rfl rfl ?_
 intro b_1
 refine s_e rfl ?_
 refine e_box (v := .agg #[.bool cr.dead, .int .i64 cr.key.toInt, .int .i64 cr.value.toInt, .int .i64 cr.seq.toInt]) (l := [.bool cr.dead, .int .i64 cr.key.toInt, .int .i64 cr.value.toInt, .int .i64 cr.seq.toInt]) rfl rfl ?_
 intro b_2
 refine s_y (v := .slice none 0 0) (y_assign rfl) rfl ?_
 refine s_e rfl ?_
 refine e_alloc (l := [.bool false, .int .i64 0, .int .i64 0, .int .i64 0]) Try.zeroValue23 rfl ?_
 intro b_3
 refine wpL_nil ?_
 refine thenS_n ?_
 refine wpS_scope ?_
 refine wpS_seq ?_
 refine wpS_seq ?_
 refine wpS_region ?_
 refine s_y (v := .agg #[.int .i64 kz, .slice a1 n1 c1, .slice a2 n2 c2, .slice a3 n3 c3]) (y_loadN rfl Try.isAgg84 Try.sizeOf84 (ownN (.t (.t .h)) rfl)) rfl ?_
 refine s_y (v := .int .i64 (chk11 kz l1 l2 l3)) (y_call (args := #[.agg #[.int .i64 kz, .slice a1 n1 c1, .slice a2 n2 c2, .slice a3 n3 c3]]) Try.call84 (ev1 rfl) (fun w hs => check_c kz a1 a2 a3 n1 c1 n2 c2 n3 c3 l1 l2 l3 w hn1 ((oldR hr1) w hs) (by omega) hn2 ((oldR hr2) w hs) (by omega) hn3 ((oldR hr3) w hs) (by omega))) rfl ?_
 refine s_y (v := .bool (decide ((chk11 kz l1 l2 l3 : Int) ≠ 0))) (y_neq (a := chk11 kz l1 l2 l3) (b := 0) rfl rfl rfl) rfl ?_
 refine wpL_nil ?_
 refine thenS_n ?_
 refine wpS_cond (t := decide ((chk11 kz l1 l2 l3 : Int) ≠ 0)) rfl (fun b4 => ?_) (fun b4 => ?_)
 ·
  have p4 := of_decide_eq_true b4
  have hno : chkB kz l1 l2 l3 = false := chk_no p4
  refine wpS_seq ?_
  refine wpS_region ?_
  refine s_y (v := .agg #[.bool deadR.dead, .int .i64 deadR.key.toInt, .int .i64 deadR.value.toInt, .int .i64 deadR.seq.toInt]) (y_call (args := #[]) Try.call49 ev0 (fun w hs => dead_c w)) rfl ?_
  refine s_y (v := .slice none 0 0) (y_assign rfl) rfl ?_
  refine s_e0 ?_
  refine e_store (vs := [.bool deadR.dead, .int .i64 deadR.key.toInt, .int .i64 deadR.value.toInt, .int .i64 deadR.seq.toInt]) (l' := [.bool deadR.dead, .int .i64 deadR.key.toInt, .int .i64 deadR.value.toInt, .int .i64 deadR.seq.toInt]) rfl rfl rfl rfl Try.sizeOf23 .h (Nat.le_of_ble_eq_true rfl) rfl ?_
  refine wpL_nil ?_
  refine thenS_n ?_
  refine wpS_ret ?_
  refine thenS_r ?_
  refine scopeS_r ?_
  refine fin2 (M := [cel b_3 23 [.bool deadR.dead, .int .i64 deadR.key.toInt, .int .i64 deadR.value.toInt, .int .i64 deadR.seq.toInt]]) (.inr rfl) (.p .h .nil) Try.results91 (rvT (v := .slice none 0 0) rfl) (rvC (vs := [.bool deadR.dead, .int .i64 deadR.key.toInt, .int .i64 deadR.value.toInt, .int .i64 deadR.seq.toInt]) rfl Try.isAgg23 Try.sizeOf23 (fun w hs => ownN .h rfl w hs)) ?_
  have e1 : stepO (chkB kz l1 l2 l3) l2 l3 cr l = [] := by unfold stepO; rw [if_neg (by rw [hno]; decide)]
  have e2 : stepC (chkB kz l1 l2 l3) l2 l3 cr l = deadR := by unfold stepC; rw [if_neg (by rw [hno]; decide)]
  exact fun w' hs => ⟨(none, 0), by rw [e1, e2]; rfl, by rw [e1]; exact (SH.nil0 w' hs).ent (.p .h .nil), trivial⟩
 ·
  have p4 := of_decide_eq_false b4
  have hok : chkB kz l1 l2 l3 = true := chk_yes (Decidable.not_not.1 p4)
  refine wpS_skip ?_
  refine thenS_n ?_
  refine wpS_seq ?_
  refine wpS_region ?_
  refine s_e rfl ?_
  refine e_alloc (l := [.slice none 0 0]) Try.zeroValue69 rfl ?_
  intro b_5
  refine wpL_nil ?_
  refine thenS_n ?_
  refine wpS_seq ?_
  refine wpS_label ?_
  refine thenS_n ?_
  refine wpS_seq ?_
  refine wpS_seq ?_
  refine wpS_region ?_
  refine s_y (v := .slice ga gn gc) (y_move rfl) rfl ?_
  refine s_e rfl ?_
  refine e_call (f := 177) (args := #[.slice ga gn gc]) (X := Nat) (A := []) (M := [cel b_5 69 [.slice none 0 0], cel b_3 23 [.bool false, .int .i64 0, .int .i64 0, .int .i64 0], cel b_2 23 [.bool cr.dead, .int .i64 cr.key.toInt, .int .i64 cr.value.toInt, .int .i64 cr.seq.toInt], cel b_1 84 [.int .i64 kz, .slice a1 n1 c1, .slice a2 n2 c2, .slice a3 n3 c3]]) (V := fun x : Nat => .func (.func 230) #[] #[.pointer (some ⟨x, 0, none⟩)]) (A' := fun x : Nat => [cel x 69 [.slice ga gn gc]]) (C := fun _ => True) Try.call177 (ev1 rfl) (.p .h (.p .h (.p .h (.p .h .nil)))) (fun w hs => valsR_c ga gn gc w) ?_
  rintro b_6 -
  refine wpL_nil ?_
  refine thenS_n ?_
  refine wpS_block ?_
  refine wpS_nil0 4 23 ?_
  refine wpS_rangeFunc (f := 230) (cap := #[.pointer (some ⟨b_6, 0, none⟩)]) (enc := fun k => #[.agg #[.bool ((l.getD k default).dead), .int .i64 (((l.getD k default).key).toInt), .int .i64 (((l.getD k default).value).toInt), .int .i64 (((l.getD k default).seq).toInt)]]) (N := gn) (rd := fun z => z = b_6 ∨ 0 < l.length ∧ z = aB ga) (A := [osl none 0 0 4 23 (([] : List Rec).flatMap recV), cel b_5 69 [.slice none 0 0], cel b_3 23 [.bool false, .int .i64 0, .int .i64 0, .int .i64 0], cel b_2 23 [.bool cr.dead, .int .i64 cr.key.toInt, .int .i64 cr.value.toInt, .int .i64 cr.seq.toInt], cel b_1 84 [.int .i64 kz, .slice a1 n1 c1, .slice a2 n2 c2, .slice a3 n3 c3]]) (M := [cel b_6 69 [.slice ga gn gc]]) (fun k A => ∃ os : List Rec, ∃ cq : Rec, ∃ b1 : Option Addr, ∃ d1 : Nat, ((os, cq) = run15 (chkB kz l1 l2 l3) l2 l3 ([], cr) (l.take k)) ∧ (os.length = k) ∧ A = [osl b1 d1 os.length 4 23 (os.flatMap recV), cel b_5 69 [.slice b1 os.length d1], cel b_3 23 [.bool false, .int .i64 0, .int .i64 0, .int .i64 0], cel b_2 23 [.bool cq.dead, .int .i64 cq.key.toInt, .int .i64 cq.value.toInt, .int .i64 cq.seq.toInt], cel b_1 84 [.int .i64 kz, .slice a1 n1 c1, .slice a2 n2 c2, .slice a3 n3 c3]]) (fun k e A => False) rfl Try.call230 (by kernel_rfl) (fun _ => rfl) (.p .h (.p (.t .h) (.p (.t .h) (.p (.t .h) (.p (.t .h) (.p .h .nil)))))) ⟨[], cr, none, 0, rfl, rfl, rfl⟩ (fun w hs => (valsR_at b_6 ga gn gc l w (own1 (.t (.t (.t (.t (.t .h))))) rfl w hs) hn ((oldR hr) w hs) (by omega)).it) (fun w hs b hb => by rcases hb with rfl | ⟨hl, rfl⟩; exact apM (A := [osl none 0 0 4 23 (([] : List Rec).flatMap recV), cel b_5 69 [.slice none 0 0], cel b_3 23 [.bool false, .int .i64 0, .int .i64 0, .int .i64 0], cel b_2 23 [.bool cr.dead, .int .i64 cr.key.toInt, .int .i64 cr.value.toInt, .int .i64 cr.seq.toInt], cel b_1 84 [.int .i64 kz, .slice a1 n1 c1, .slice a2 n2 c2, .slice a3 n3 c3]]) hs .h (by simp [cel, blk]); exact apOld hs (rdBlk hr (fl_pos recV_len (by decide) hl)) (by simp)) ?_ ?_ ?_
  ·
   rintro k A' hk_7 ⟨os, cq, b1, d1, hf0_7, hf1_7, rfl⟩ w_7 l_7 hs_7
   refine wpS_region ?_
   refine s_e rfl ?_
   refine e_alloc (l := [.bool false, .int .i64 0, .int .i64 0, .int .i64 0]) Try.zeroValue23 rfl ?_
   intro b_8
   refine s_e0 ?_
   refine e_store (vs := [.bool ((l.getD k default).dead), .int .i64 (((l.getD k default).key).toInt), .int .i64 (((l.getD k default).value).toInt), .int .i64 (((l.getD k default).seq).toInt)]) (l' := [.bool ((l.getD k default).dead), .int .i64 (((l.getD k default).key).toInt), .int .i64 (((l.getD k default).value).toInt), .int .i64 (((l.getD k default).seq).toInt)]) rfl rfl rfl rfl Try.sizeOf23 .h (Nat.le_of_ble_eq_true rfl) rfl ?_
   refine wpL_nil ?_
   refine asg_n fun w2_7 hs2_7 => ?_
   have hrd9 := rdIn (A' := [cel b_8 23 [.bool ((l.getD k default).dead), .int .i64 (((l.getD k default).key).toInt), .int .i64 (((l.getD k default).value).toInt), .int .i64 (((l.getD k default).seq).toInt)], osl b1 d1 os.length 4 23 (os.flatMap recV), cel b_5 69 [.slice b1 os.length d1], cel b_3 23 [.bool false, .int .i64 0, .int .i64 0, .int .i64 0], cel b_2 23 [.bool cq.dead, .int .i64 cq.key.toInt, .int .i64 cq.value.toInt, .int .i64 cq.seq.toInt], cel b_1 84 [.int .i64 kz, .slice a1 n1 c1, .slice a2 n2 c2, .slice a3 n3 c3]]) hs2_7 (oldR hr w2_7 hs2_7) (fun hl => ⟨rdBlk hr hl, by simp⟩)
   have hrd10 := rdIn (A' := [cel b_8 23 [.bool ((l.getD k default).dead), .int .i64 (((l.getD k default).key).toInt), .int .i64 (((l.getD k default).value).toInt), .int .i64 (((l.getD k default).seq).toInt)], osl b1 d1 os.length 4 23 (os.flatMap recV), cel b_5 69 [.slice b1 os.length d1], cel b_3 23 [.bool false, .int .i64 0, .int .i64 0, .int .i64 0], cel b_2 23 [.bool cq.dead, .int .i64 cq.key.toInt, .int .i64 cq.value.toInt, .int .i64 cq.seq.toInt], cel b_1 84 [.int .i64 kz, .slice a1 n1 c1, .slice a2 n2 c2, .slice a3 n3 c3]]) hs2_7 (oldR hr1 w2_7 hs2_7) (fun hl => ⟨rdBlk hr1 hl, by simp⟩)
   have hrd11 := rdIn (A' := [cel b_8 23 [.bool ((l.getD k default).dead), .int .i64 (((l.getD k default).key).toInt), .int .i64 (((l.getD k default).value).toInt), .int .i64 (((l.getD k default).seq).toInt)], osl b1 d1 os.length 4 23 (os.flatMap recV), cel b_5 69 [.slice b1 os.length d1], cel b_3 23 [.bool false, .int .i64 0, .int .i64 0, .int .i64 0], cel b_2 23 [.bool cq.dead, .int .i64 cq.key.toInt, .int .i64 cq.value.toInt, .int .i64 cq.seq.toInt], cel b_1 84 [.int .i64 kz, .slice a1 n1 c1, .slice a2 n2 c2, .slice a3 n3 c3]]) hs2_7 (oldR hr2 w2_7 hs2_7) (fun hl => ⟨rdBlk hr2 hl, by simp⟩)
   have hrd12 := rdIn (A' := [cel b_8 23 [.bool ((l.getD k default).dead), .int .i64 (((l.getD k default).key).toInt), .int .i64 (((l.getD k default).value).toInt), .int .i64 (((l.getD k default).seq).toInt)], osl b1 d1 os.length 4 23 (os.flatMap recV), cel b_5 69 [.slice b1 os.length d1], cel b_3 23 [.bool false, .int .i64 0, .int .i64 0, .int .i64 0], cel b_2 23 [.bool cq.dead, .int .i64 cq.key.toInt, .int .i64 cq.value.toInt, .int .i64 cq.seq.toInt], cel b_1 84 [.int .i64 kz, .slice a1 n1 c1, .slice a2 n2 c2, .slice a3 n3 c3]]) hs2_7 (oldR hr3 w2_7 hs2_7) (fun hl => ⟨rdBlk hr3 hl, by simp⟩)
   refine wpS_block ?_
   refine wpS_seq ?_
   refine wpS_seq ?_
   refine wpS_region ?_
   refine s_y (v := .pointer (some ⟨b_8, 0, none⟩)) (y_fieldAddr (o' := 0) rfl Try.underlying23 rfl Try.sizeOf4 (by decide) rfl) rfl ?_
   refine s_y (v := .bool ((l.getD k default).dead)) (y_load1 rfl Try.isAgg4 (own1 .h rfl)) rfl ?_
   refine s_y (v := .bool (!((l.getD k default).dead))) (y_not (b := (l.getD k default).dead) rfl) rfl ?_
   refine s_y (v := .bool (!((l.getD k default).dead))) (y_move rfl) rfl ?_
   rcases Bool.eq_false_or_eq_true (!((l.getD k default).dead)) with b13 | b13
   ·
    have b14 : ((l.getD k default).dead) = false := by simpa using b13
    refine s_gy (y_fieldAddr (o' := 0) rfl Try.underlying23 rfl Try.sizeOf4 (by decide) rfl) rfl rfl rfl rfl (b' := !((l.getD k default).dead)) rfl b13 ?_
    refine s_gy (y_load1 rfl Try.isAgg4 (own1 (.t (.t (.t (.t .h)))) rfl)) rfl rfl rfl rfl (b' := !((l.getD k default).dead)) rfl b13 ?_
    refine s_gy (y_not (b := cq.dead) rfl) rfl rfl rfl rfl (b' := !((l.getD k default).dead)) rfl b13 ?_
    refine s_y (v := .bool (!cq.dead)) (y_pickT (b := !((l.getD k default).dead)) rfl b13 rfl) rfl ?_
    refine s_y (v := .bool (!cq.dead)) (y_move rfl) rfl ?_
    rcases Bool.eq_false_or_eq_true (!cq.dead) with b15 | b15
    ·
     have b16 : cq.dead = false := by simpa using b15
     refine s_gy (y_fieldAddr (o' := 1) rfl Try.underlying23 rfl Try.sizeOf2 (by decide) rfl) rfl rfl rfl rfl (b' := !cq.dead) rfl b15 ?_
     refine s_gy (y_load1 rfl Try.isAgg2 (own1 .h rfl)) rfl rfl rfl rfl (b' := !cq.dead) rfl b15 ?_
     refine s_gy (y_fieldAddr (o' := 1) rfl Try.underlying23 rfl Try.sizeOf2 (by decide) rfl) rfl rfl rfl rfl (b' := !cq.dead) rfl b15 ?_
     refine s_gy (y_load1 rfl Try.isAgg2 (own1 (.t (.t (.t (.t .h)))) rfl)) rfl rfl rfl rfl (b' := !cq.dead) rfl b15 ?_
     refine s_gy (y_eql (a := ((l.getD k default).key).toInt) (b := cq.key.toInt) (c := decide (((l.getD k default).key) = cq.key)) rfl rfl (i_eql _ _)) rfl rfl rfl rfl (b' := !cq.dead) rfl b15 ?_
     refine s_y (v := .bool (decide (((l.getD k default).key) = cq.key))) (y_pickT (b := !cq.dead) rfl b15 rfl) rfl ?_
     refine wpL_nil ?_
     refine thenS_n ?_
     refine wpS_cond (t := decide (((l.getD k default).key) = cq.key)) rfl (fun b17 => ?_) (fun b17 => ?_)
     ·
      have p17 := of_decide_eq_true b17
      refine wpS_seq ?_
      refine wpS_region ?_
      refine s_y (v := .agg #[.int .i64 kz, .slice a1 n1 c1, .slice a2 n2 c2, .slice a3 n3 c3]) (y_loadN rfl Try.isAgg84 Try.sizeOf84 (ownN (.t (.t (.t (.t (.t .h))))) rfl)) rfl ?_
      refine s_y (v := .pointer (some ⟨b_2, 2, none⟩)) (y_fieldAddr (o' := 2) rfl Try.underlying23 rfl Try.sizeOf2 (by decide) rfl) rfl ?_
      refine s_y (v := .int .i64 cq.value.toInt) (y_load1 rfl Try.isAgg2 (own1 (.t (.t (.t (.t .h)))) rfl)) rfl ?_
      refine s_y (v := .pointer (some ⟨b_8, 2, none⟩)) (y_fieldAddr (o' := 2) rfl Try.underlying23 rfl Try.sizeOf2 (by decide) rfl) rfl ?_
      refine s_y (v := .int .i64 (((l.getD k default).value).toInt)) (y_load1 rfl Try.isAgg2 (own1 .h rfl)) rfl ?_
      refine s_y (v := .int .i64 ((doneC (chkB kz l1 l2 l3) l2 cq.value ((l.getD k default).value)).toInt)) (y_call (args := #[.agg #[.int .i64 kz, .slice a1 n1 c1, .slice a2 n2 c2, .slice a3 n3 c3], .int .i64 cq.value.toInt, .int .i64 (((l.getD k default).value).toInt)]) Try.call85 (ev3 rfl rfl rfl) (fun w hs => fold_c kz a1 a2 a3 n1 c1 n2 c2 n3 c3 l1 l2 l3 cq.value ((l.getD k default).value) w hn1 ((hrd10 _) w hs) (by omega) hn2 ((hrd11 _) w hs) (by omega) hn3 ((hrd12 _) w hs) (by omega))) rfl ?_
      refine s_y (v := .pointer (some ⟨b_2, 2, none⟩)) (y_fieldAddr (o' := 2) rfl Try.underlying23 rfl Try.sizeOf2 (by decide) rfl) rfl ?_
      refine s_e0 ?_
      refine e_store (vs := [.int .i64 ((doneC (chkB kz l1 l2 l3) l2 cq.value ((l.getD k default).value)).toInt)]) (l' := [.bool cq.dead, .int .i64 cq.key.toInt, .int .i64 ((doneC (chkB kz l1 l2 l3) l2 cq.value ((l.getD k default).value)).toInt), .int .i64 cq.seq.toInt]) rfl rfl rfl rfl Try.sizeOf2 (.t (.t (.t (.t .h)))) (Nat.le_of_ble_eq_true rfl) rfl ?_
      refine wpL_nil ?_
      refine thenS_n ?_
      refine wpS_seq ?_
      refine wpS_anyL [cel b_5 69 [.slice b1 os.length d1]] [4] (by kernel_rfl) ?_
      refine anyS_take (i := 0) rfl (by kernel_rfl) (by kernel_rfl) (by kernel_rfl) (by kernel_rfl) (Yq.of (v := .slice b1 os.length d1) (y_load1 rfl Try.isAgg69 (own1 .h rfl)) rfl) (.p (.t (.t (.t .h))) .nil) ?_
      refine anyS_take (i := 1) rfl (by kernel_rfl) (by kernel_rfl) (by kernel_rfl) (by kernel_rfl) (Yq.of (v := .agg #[.bool deadR.dead, .int .i64 deadR.key.toInt, .int .i64 deadR.value.toInt, .int .i64 deadR.seq.toInt]) (y_call (args := #[]) Try.call49 ev0 (fun w hs => dead_c w)) rfl) (.p (.t (.t (.t .h))) .nil) ?_
      refine anyS_all (rs := [2]) (by kernel_rfl) (by simp) ?_
      intro i hi; obtain rfl := List.mem_singleton.1 hi; clear hi
      refine opS_0 rfl rfl ?_
      refine e_bsliceL (e := 23) (m := [(0, .agg #[.bool deadR.dead, .int .i64 deadR.key.toInt, .int .i64 deadR.value.toInt, .int .i64 deadR.seq.toInt])]) (l := [.bool deadR.dead, .int .i64 deadR.key.toInt, .int .i64 deadR.value.toInt, .int .i64 deadR.seq.toInt]) (evc rfl evn) (fun w => by kernel_rfl) ?_
      intro b_18
      refine ⟨.inr (.p (.t (.t (.t (.t .h)))) .nil), ?_⟩
      refine anyS_all (rs := [3]) (by kernel_rfl) (by simp) ?_
      intro i hi; obtain rfl := List.mem_singleton.1 hi; clear hi
      refine opS_0 rfl rfl ?_
      refine e_appendL (enc := recV) (xs := (os : List Rec)) (ns := ([deadR] : List Rec)) (zs := (os ++ [deadR])) (bytes := 32) recV_len recV_one Try.underlying69 (i := Try.t23) rfl rfl rfl rfl rfl (by decide) rfl rfl (by first | rfl | omega) (by first | rfl | omega) (.t (.t (.t .h))) (fun w hs => celR .h w hs) (by first | rfl | simp) (by (try simp only [List.length_append, List.length_cons, List.length_nil] at *); omega) (by (try simp only [List.length_append, List.length_cons, List.length_nil] at *); omega) ?_
      intro a_19 c_20
      refine ⟨.inr (.p (.t (.t (.t (.t .h)))) .nil), ?_⟩
      refine anyS_all (rs := [4]) (by kernel_rfl) (by simp) ?_
      intro i hi; obtain rfl := List.mem_singleton.1 hi; clear hi
      refine opS_0 rfl rfl ?_
      refine e_store (vs := [.slice a_19 ((os ++ [deadR]).length) c_20]) (l' := [.slice a_19 ((os ++ [deadR]).length) c_20]) rfl rfl rfl rfl Try.sizeOf69 (.t (.t (.t (.t .h)))) (Nat.le_of_ble_eq_true rfl) rfl ?_
      refine ⟨.inl (by simp), ?_⟩
      refine anyS_done (by kernel_rfl) ?_
      refine thenS_n ?_
      refine wpS_exit ?_
      refine thenS_x ?_
      refine blockS_h ?_
      exact rnd_n ⟨[osl a_19 c_20 ((os ++ [deadR]).length) 4 23 ((os ++ [deadR]).flatMap recV), cel b_5 69 [.slice a_19 (os ++ [deadR]).length c_20], cel b_3 23 [.bool false, .int .i64 0, .int .i64 0, .int .i64 0], cel b_2 23 [.bool ((Rec.mk cq.dead cq.key (doneC (chkB kz l1 l2 l3) l2 cq.value ((l.getD k default).value)) cq.seq).dead), .int .i64 ((Rec.mk cq.dead cq.key (doneC (chkB kz l1 l2 l3) l2 cq.value ((l.getD k default).value)) cq.seq).key.toInt), .int .i64 ((Rec.mk cq.dead cq.key (doneC (chkB kz l1 l2 l3) l2 cq.value ((l.getD k default).value)) cq.seq).value.toInt), .int .i64 ((Rec.mk cq.dead cq.key (doneC (chkB kz l1 l2 l3) l2 cq.value ((l.getD k default).value)) cq.seq).seq.toInt)], cel b_1 84 [.int .i64 kz, .slice a1 n1 c1, .slice a2 n2 c2, .slice a3 n3 c3]], .p (.t .h) (.p .h (.p (.t (.t (.t .h))) (.p (.t .h) (.p (.t (.t .h)) .nil)))), ⟨(os ++ [deadR]), (Rec.mk cq.dead cq.key (doneC (chkB kz l1 l2 l3) l2 cq.value ((l.getD k default).value)) cq.seq), a_19, c_20, (run15_step (by assumption) (by omega) (by first | exact cstp_1 (by assumption) (by assumption) (by assumption) | exact cstp_a (by assumption) (by assumption) | exact cstp_b (by assumption) (by assumption) | exact cstp_c (by assumption) (by assumption) | exact cstp_d (by assumption) (by assumption) (by assumption))), (by rw [List.length_append, List.length_singleton]; omega), rfl⟩⟩
     ·
      have p17 := of_decide_eq_false b17
      refine wpS_skip ?_
      refine thenS_n ?_
      refine wpS_seq ?_
      refine wpS_region ?_
      refine s_y (v := .agg #[.bool deadR.dead, .int .i64 deadR.key.toInt, .int .i64 deadR.value.toInt, .int .i64 deadR.seq.toInt]) (y_call (args := #[]) Try.call49 ev0 (fun w hs => dead_c w)) rfl ?_
      refine s_e rfl ?_
      refine e_alloc (l := [.bool false, .int .i64 0, .int .i64 0, .int .i64 0]) Try.zeroValue23 rfl ?_
      intro b_21
      refine s_e0 ?_
      refine e_store (vs := [.bool deadR.dead, .int .i64 deadR.key.toInt, .int .i64 deadR.value.toInt, .int .i64 deadR.seq.toInt]) (l' := [.bool deadR.dead, .int .i64 deadR.key.toInt, .int .i64 deadR.value.toInt, .int .i64 deadR.seq.toInt]) rfl rfl rfl rfl Try.sizeOf23 .h (Nat.le_of_ble_eq_true rfl) rfl ?_
      refine wpL_nil ?_
      refine thenS_n ?_
      refine wpS_seq ?_
      refine wpS_seq ?_
      refine wpS_region ?_
      refine s_y (v := .pointer (some ⟨b_2, 0, none⟩)) (y_fieldAddr (o' := 0) rfl Try.underlying23 rfl Try.sizeOf4 (by decide) rfl) rfl ?_
      refine s_y (v := .bool cq.dead) (y_load1 rfl Try.isAgg4 (own1 (.t (.t (.t (.t (.t .h))))) rfl)) rfl ?_
      refine s_y (v := .bool (!cq.dead)) (y_not (b := cq.dead) rfl) rfl ?_
      refine wpL_nil ?_
      refine thenS_n ?_
      refine wpS_cond_T (t := !cq.dead) rfl b15 ?_
      refine wpS_anyL [cel b_2 23 [.bool cq.dead, .int .i64 cq.key.toInt, .int .i64 cq.value.toInt, .int .i64 cq.seq.toInt], cel b_1 84 [.int .i64 kz, .slice a1 n1 c1, .slice a2 n2 c2, .slice a3 n3 c3]] [] (by kernel_rfl) ?_
      refine anyS_take (i := 0) rfl (by kernel_rfl) (by kernel_rfl) (by kernel_rfl) (by kernel_rfl) (Yq.of (v := .pointer (some ⟨b_2, 1, none⟩)) (y_fieldAddr (o' := 1) rfl Try.underlying23 rfl Try.sizeOf2 (by decide) rfl) rfl) (.p (.t (.t (.t (.t (.t .h))))) (.p (.t (.t (.t (.t (.t .h))))) .nil)) ?_
      refine anyS_take (i := 1) rfl (by kernel_rfl) (by kernel_rfl) (by kernel_rfl) (by kernel_rfl) (Yq.of (v := .int .i64 cq.key.toInt) (y_load1 rfl Try.isAgg2 (own1 .h rfl)) rfl) (.p (.t (.t (.t (.t (.t .h))))) (.p (.t (.t (.t (.t (.t .h))))) .nil)) ?_
      refine anyS_take (i := 2) rfl (by kernel_rfl) (by kernel_rfl) (by kernel_rfl) (by kernel_rfl) (Yq.of (v := .agg #[.int .i64 kz, .slice a1 n1 c1, .slice a2 n2 c2, .slice a3 n3 c3]) (y_loadN rfl Try.isAgg84 Try.sizeOf84 (ownN (.t .h) rfl)) rfl) (.p (.t (.t (.t (.t (.t .h))))) (.p (.t (.t (.t (.t (.t .h))))) .nil)) ?_
      refine anyS_take (i := 3) rfl (by kernel_rfl) (by kernel_rfl) (by kernel_rfl) (by kernel_rfl) (Yq.of (v := .pointer (some ⟨b_2, 1, none⟩)) (y_fieldAddr (o' := 1) rfl Try.underlying23 rfl Try.sizeOf2 (by decide) rfl) rfl) (.p (.t (.t (.t (.t (.t .h))))) (.p (.t (.t (.t (.t (.t .h))))) .nil)) ?_
      refine anyS_take (i := 4) rfl (by kernel_rfl) (by kernel_rfl) (by kernel_rfl) (by kernel_rfl) (Yq.of (v := .int .i64 cq.key.toInt) (y_load1 rfl Try.isAgg2 (own1 .h rfl)) rfl) (.p (.t (.t (.t (.t (.t .h))))) (.p (.t (.t (.t (.t (.t .h))))) .nil)) ?_
      refine anyS_take (i := 5) rfl (by kernel_rfl) (by kernel_rfl) (by kernel_rfl) (by kernel_rfl) (Yq.of (v := .pointer (some ⟨b_2, 2, none⟩)) (y_fieldAddr (o' := 2) rfl Try.underlying23 rfl Try.sizeOf2 (by decide) rfl) rfl) (.p (.t (.t (.t (.t (.t .h))))) (.p (.t (.t (.t (.t (.t .h))))) .nil)) ?_
      refine anyS_take (i := 6) rfl (by kernel_rfl) (by kernel_rfl) (by kernel_rfl) (by kernel_rfl) (Yq.of (v := .int .i64 cq.value.toInt) (y_load1 rfl Try.isAgg2 (own1 .h rfl)) rfl) (.p (.t (.t (.t (.t (.t .h))))) (.p (.t (.t (.t (.t (.t .h))))) .nil)) ?_
      refine anyS_take (i := 7) rfl (by kernel_rfl) (by kernel_rfl) (by kernel_rfl) (by kernel_rfl) (Yq.of (v := .int .i64 ((doneC (chkB kz l1 l2 l3) l3 cq.value cq.key).toInt)) (y_call (args := #[.agg #[.int .i64 kz, .slice a1 n1 c1, .slice a2 n2 c2, .slice a3 n3 c3], .int .i64 cq.key.toInt, .int .i64 cq.value.toInt]) Try.call89 (ev3 rfl rfl rfl) (fun w hs => finish_c kz a1 a2 a3 n1 c1 n2 c2 n3 c3 l1 l2 l3 cq.key cq.value w hn1 ((hrd10 _) w hs) (by omega) hn2 ((hrd11 _) w hs) (by omega) hn3 ((hrd12 _) w hs) (by omega))) rfl) (.p (.t (.t (.t (.t (.t .h))))) (.p (.t (.t (.t (.t (.t .h))))) .nil)) ?_
      refine anyS_take (i := 8) rfl (by kernel_rfl) (by kernel_rfl) (by kernel_rfl) (by kernel_rfl) (Yq.of (v := .agg #[.bool false, .int .i64 cq.key.toInt, .int .i64 ((doneC (chkB kz l1 l2 l3) l3 cq.value cq.key).toInt), .int .i64 0]) (y_buildL (m := [(1, .int .i64 cq.key.toInt), (2, .int .i64 ((doneC (chkB kz l1 l2 l3) l3 cq.value cq.key).toInt))]) (vs := #[.bool false, .int .i64 cq.key.toInt, .int .i64 ((doneC (chkB kz l1 l2 l3) l3 cq.value cq.key).toInt), .int .i64 0]) (evc rfl (evc rfl evn)) (fun w => by kernel_rfl)) rfl) (.p (.t (.t (.t (.t (.t .h))))) (.p (.t (.t (.t (.t (.t .h))))) .nil)) ?_
      refine anyS_all (rs := [9]) (by kernel_rfl) (by simp) ?_
      intro i hi; obtain rfl := List.mem_singleton.1 hi; clear hi
      refine opS_0 rfl rfl ?_
      refine e_store (vs := [.bool false, .int .i64 cq.key.toInt, .int .i64 ((doneC (chkB kz l1 l2 l3) l3 cq.value cq.key).toInt), .int .i64 0]) (l' := [.bool false, .int .i64 cq.key.toInt, .int .i64 ((doneC (chkB kz l1 l2 l3) l3 cq.value cq.key).toInt), .int .i64 0]) rfl rfl rfl rfl Try.sizeOf23 .h (Nat.le_of_ble_eq_true rfl) rfl ?_
      refine ⟨.inr (.p (.t (.t (.t (.t (.t .h))))) (.p (.t (.t (.t (.t (.t .h))))) .nil)), ?_⟩
      refine anyS_done (by kernel_rfl) ?_
      refine thenS_n ?_
      refine wpS_seq ?_
      refine wpS_region ?_
      refine s_y (v := .slice b1 os.length d1) (y_load1 rfl Try.isAgg69 (own1 (.t (.t (.t .h))) rfl)) rfl ?_
      refine s_y (v := .agg #[.bool false, .int .i64 cq.key.toInt, .int .i64 ((doneC (chkB kz l1 l2 l3) l3 cq.value cq.key).toInt), .int .i64 0]) (y_loadN rfl Try.isAgg23 Try.sizeOf23 (ownN .h rfl)) rfl ?_
      refine s_e rfl ?_
      refine e_bsliceL (e := 23) (m := [(0, .agg #[.bool false, .int .i64 cq.key.toInt, .int .i64 ((doneC (chkB kz l1 l2 l3) l3 cq.value cq.key).toInt), .int .i64 0])]) (l := [.bool false, .int .i64 cq.key.toInt, .int .i64 ((doneC (chkB kz l1 l2 l3) l3 cq.value cq.key).toInt), .int .i64 0]) (evc rfl evn) (fun w => by kernel_rfl) ?_
      intro b_22
      refine s_e rfl ?_
      refine e_appendL (enc := recV) (xs := (os : List Rec)) (ns := ([(Rec.mk false cq.key (doneC (chkB kz l1 l2 l3) l3 cq.value cq.key) 0)] : List Rec)) (zs := (os ++ [(Rec.mk false cq.key (doneC (chkB kz l1 l2 l3) l3 cq.value cq.key) 0)])) (bytes := 32) recV_len recV_one Try.underlying69 (i := Try.t23) rfl rfl rfl rfl rfl (by decide) rfl rfl (by first | rfl | omega) (by first | rfl | omega) (.t (.t (.t .h))) (fun w hs => celR .h w hs) (by first | rfl | simp) (by (try simp only [List.length_append, List.length_cons, List.length_nil] at *); omega) (by (try simp only [List.length_append, List.length_cons, List.length_nil] at *); omega) ?_
      intro a_23 c_24
      refine s_e0 ?_
      refine e_store (vs := [.slice a_23 ((os ++ [(Rec.mk false cq.key (doneC (chkB kz l1 l2 l3) l3 cq.value cq.key) 0)]).length) c_24]) (l' := [.slice a_23 ((os ++ [(Rec.mk false cq.key (doneC (chkB kz l1 l2 l3) l3 cq.value cq.key) 0)]).length) c_24]) rfl rfl rfl rfl Try.sizeOf69 (.t (.t (.t (.t .h)))) (Nat.le_of_ble_eq_true rfl) rfl ?_
      refine wpL_nil ?_
      refine thenS_n ?_
      refine wpS_seq ?_
      refine wpS_region ?_
      refine s_y (v := .agg #[.bool deadR.dead, .int .i64 deadR.key.toInt, .int .i64 deadR.value.toInt, .int .i64 deadR.seq.toInt]) (y_call (args := #[]) Try.call49 ev0 (fun w hs => dead_c w)) rfl ?_
      refine s_e0 ?_
      refine e_store (vs := [.bool deadR.dead, .int .i64 deadR.key.toInt, .int .i64 deadR.value.toInt, .int .i64 deadR.seq.toInt]) (l' := [.bool deadR.dead, .int .i64 deadR.key.toInt, .int .i64 deadR.value.toInt, .int .i64 deadR.seq.toInt]) rfl rfl rfl rfl Try.sizeOf23 (.t (.t (.t (.t (.t (.t .h)))))) (Nat.le_of_ble_eq_true rfl) rfl ?_
      refine wpL_nil ?_
      refine thenS_n ?_
      refine wpS_seq ?_
      refine wpS_region ?_
      refine s_y (v := .pointer (some ⟨b_8, 0, none⟩)) (y_fieldAddr (o' := 0) rfl Try.underlying23 rfl Try.sizeOf4 (by decide) rfl) rfl ?_
      refine s_y (v := .bool ((l.getD k default).dead)) (y_load1 rfl Try.isAgg4 (own1 (.t (.t (.t (.t (.t .h))))) rfl)) rfl ?_
      refine s_y (v := .bool (!((l.getD k default).dead))) (y_not (b := (l.getD k default).dead) rfl) rfl ?_
      refine wpL_nil ?_
      refine thenS_n ?_
      refine wpS_cond_T (t := !((l.getD k default).dead)) rfl b13 ?_
      refine wpS_region ?_
      refine s_y (v := .pointer (some ⟨b_8, 1, none⟩)) (y_fieldAddr (o' := 1) rfl Try.underlying23 rfl Try.sizeOf2 (by decide) rfl) rfl ?_
      refine s_y (v := .int .i64 (((l.getD k default).key).toInt)) (y_load1 rfl Try.isAgg2 (own1 (.t (.t (.t (.t (.t .h))))) rfl)) rfl ?_
      refine s_y (v := .pointer (some ⟨b_8, 2, none⟩)) (y_fieldAddr (o' := 2) rfl Try.underlying23 rfl Try.sizeOf2 (by decide) rfl) rfl ?_
      refine s_y (v := .int .i64 (((l.getD k default).value).toInt)) (y_load1 rfl Try.isAgg2 (own1 (.t (.t (.t (.t (.t .h))))) rfl)) rfl ?_
      refine s_y (v := .agg #[.bool false, .int .i64 (((l.getD k default).key).toInt), .int .i64 (((l.getD k default).value).toInt), .int .i64 0]) (y_buildL (m := [(1, .int .i64 (((l.getD k default).key).toInt)), (2, .int .i64 (((l.getD k default).value).toInt))]) (vs := #[.bool false, .int .i64 (((l.getD k default).key).toInt), .int .i64 (((l.getD k default).value).toInt), .int .i64 0]) (evc rfl (evc rfl evn)) (fun w => by kernel_rfl)) rfl ?_
      refine s_e0 ?_
      refine e_store (vs := [.bool false, .int .i64 (((l.getD k default).key).toInt), .int .i64 (((l.getD k default).value).toInt), .int .i64 0]) (l' := [.bool false, .int .i64 (((l.getD k default).key).toInt), .int .i64 (((l.getD k default).value).toInt), .int .i64 0]) rfl rfl rfl rfl Try.sizeOf23 .h (Nat.le_of_ble_eq_true rfl) rfl ?_
      refine wpL_nil ?_
      refine blockS_n ?_
      exact rnd_n ⟨[osl a_23 c_24 ((os ++ [(Rec.mk false cq.key (doneC (chkB kz l1 l2 l3) l3 cq.value cq.key) 0)]).length) 4 23 ((os ++ [(Rec.mk false cq.key (doneC (chkB kz l1 l2 l3) l3 cq.value cq.key) 0)]).flatMap recV), cel b_5 69 [.slice a_23 (os ++ [(Rec.mk false cq.key (doneC (chkB kz l1 l2 l3) l3 cq.value cq.key) 0)]).length c_24], cel b_3 23 [.bool false, .int .i64 0, .int .i64 0, .int .i64 0], cel b_2 23 [.bool ((Rec.mk false ((l.getD k default).key) ((l.getD k default).value) 0).dead), .int .i64 ((Rec.mk false ((l.getD k default).key) ((l.getD k default).value) 0).key.toInt), .int .i64 ((Rec.mk false ((l.getD k default).key) ((l.getD k default).value) 0).value.toInt), .int .i64 ((Rec.mk false ((l.getD k default).key) ((l.getD k default).value) 0).seq.toInt)], cel b_1 84 [.int .i64 kz, .slice a1 n1 c1, .slice a2 n2 c2, .slice a3 n3 c3]], .p (.t (.t .h)) (.p (.t .h) (.p (.t (.t (.t (.t .h)))) (.p .h (.p (.t (.t (.t .h))) .nil)))), ⟨(os ++ [(Rec.mk false cq.key (doneC (chkB kz l1 l2 l3) l3 cq.value cq.key) 0)]), (Rec.mk false ((l.getD k default).key) ((l.getD k default).value) 0), a_23, c_24, (run15_step (by assumption) (by omega) (by first | exact cstp_1 (by assumption) (by assumption) (by assumption) | exact cstp_a (by assumption) (by assumption) | exact cstp_b (by assumption) (by assumption) | exact cstp_c (by assumption) (by assumption) | exact cstp_d (by assumption) (by assumption) (by assumption))), (by rw [List.length_append, List.length_singleton]; omega), rfl⟩⟩
    ·
     have b25 : cq.dead = true := by simpa using b15
     refine s_no rfl rfl rfl rfl (b' := !cq.dead) rfl b15 ?_
     refine s_no rfl rfl rfl rfl (b' := !cq.dead) rfl b15 ?_
     refine s_no rfl rfl rfl rfl (b' := !cq.dead) rfl b15 ?_
     refine s_no rfl rfl rfl rfl (b' := !cq.dead) rfl b15 ?_
     refine s_no rfl rfl rfl rfl (b' := !cq.dead) rfl b15 ?_
     refine s_y (v := .bool false) (y_pickF (b := !cq.dead) rfl b15 rfl) rfl ?_
     refine wpL_nil ?_
     refine thenS_n ?_
     refine wpS_cond_f rfl ?_
     refine wpS_skip ?_
     refine thenS_n ?_
     refine wpS_seq ?_
     refine wpS_region ?_
     refine s_y (v := .agg #[.bool deadR.dead, .int .i64 deadR.key.toInt, .int .i64 deadR.value.toInt, .int .i64 deadR.seq.toInt]) (y_call (args := #[]) Try.call49 ev0 (fun w hs => dead_c w)) rfl ?_
     refine s_e rfl ?_
     refine e_alloc (l := [.bool false, .int .i64 0, .int .i64 0, .int .i64 0]) Try.zeroValue23 rfl ?_
     intro b_26
     refine s_e0 ?_
     refine e_store (vs := [.bool deadR.dead, .int .i64 deadR.key.toInt, .int .i64 deadR.value.toInt, .int .i64 deadR.seq.toInt]) (l' := [.bool deadR.dead, .int .i64 deadR.key.toInt, .int .i64 deadR.value.toInt, .int .i64 deadR.seq.toInt]) rfl rfl rfl rfl Try.sizeOf23 .h (Nat.le_of_ble_eq_true rfl) rfl ?_
     refine wpL_nil ?_
     refine thenS_n ?_
     refine wpS_seq ?_
     refine wpS_seq ?_
     refine wpS_region ?_
     refine s_y (v := .pointer (some ⟨b_2, 0, none⟩)) (y_fieldAddr (o' := 0) rfl Try.underlying23 rfl Try.sizeOf4 (by decide) rfl) rfl ?_
     refine s_y (v := .bool cq.dead) (y_load1 rfl Try.isAgg4 (own1 (.t (.t (.t (.t (.t .h))))) rfl)) rfl ?_
     refine s_y (v := .bool (!cq.dead)) (y_not (b := cq.dead) rfl) rfl ?_
     refine wpL_nil ?_
     refine thenS_n ?_
     refine wpS_cond_F (t := !cq.dead) rfl b15 ?_
     refine wpS_skip ?_
     refine thenS_n ?_
     refine wpS_seq ?_
     refine wpS_region ?_
     refine s_y (v := .slice b1 os.length d1) (y_load1 rfl Try.isAgg69 (own1 (.t (.t (.t .h))) rfl)) rfl ?_
     refine s_y (v := .agg #[.bool deadR.dead, .int .i64 deadR.key.toInt, .int .i64 deadR.value.toInt, .int .i64 deadR.seq.toInt]) (y_loadN rfl Try.isAgg23 Try.sizeOf23 (ownN .h rfl)) rfl ?_
     refine s_e rfl ?_
     refine e_bsliceL (e := 23) (m := [(0, .agg #[.bool deadR.dead, .int .i64 deadR.key.toInt, .int .i64 deadR.value.toInt, .int .i64 deadR.seq.toInt])]) (l := [.bool deadR.dead, .int .i64 deadR.key.toInt, .int .i64 deadR.value.toInt, .int .i64 deadR.seq.toInt]) (evc rfl evn) (fun w => by kernel_rfl) ?_
     intro b_27
     refine s_e rfl ?_
     refine e_appendL (enc := recV) (xs := (os : List Rec)) (ns := ([deadR] : List Rec)) (zs := (os ++ [deadR])) (bytes := 32) recV_len recV_one Try.underlying69 (i := Try.t23) rfl rfl rfl rfl rfl (by decide) rfl rfl (by first | rfl | omega) (by first | rfl | omega) (.t (.t (.t .h))) (fun w hs => celR .h w hs) (by first | rfl | simp) (by (try simp only [List.length_append, List.length_cons, List.length_nil] at *); omega) (by (try simp only [List.length_append, List.length_cons, List.length_nil] at *); omega) ?_
     intro a_28 c_29
     refine s_e0 ?_
     refine e_store (vs := [.slice a_28 ((os ++ [deadR]).length) c_29]) (l' := [.slice a_28 ((os ++ [deadR]).length) c_29]) rfl rfl rfl rfl Try.sizeOf69 (.t (.t (.t (.t .h)))) (Nat.le_of_ble_eq_true rfl) rfl ?_
     refine wpL_nil ?_
     refine thenS_n ?_
     refine wpS_seq ?_
     refine wpS_region ?_
     refine s_y (v := .agg #[.bool deadR.dead, .int .i64 deadR.key.toInt, .int .i64 deadR.value.toInt, .int .i64 deadR.seq.toInt]) (y_call (args := #[]) Try.call49 ev0 (fun w hs => dead_c w)) rfl ?_
     refine s_e0 ?_
     refine e_store (vs := [.bool deadR.dead, .int .i64 deadR.key.toInt, .int .i64 deadR.value.toInt, .int .i64 deadR.seq.toInt]) (l' := [.bool deadR.dead, .int .i64 deadR.key.toInt, .int .i64 deadR.value.toInt, .int .i64 deadR.seq.toInt]) rfl rfl rfl rfl Try.sizeOf23 (.t (.t (.t (.t (.t (.t .h)))))) (Nat.le_of_ble_eq_true rfl) rfl ?_
     refine wpL_nil ?_
     refine thenS_n ?_
     refine wpS_seq ?_
     refine wpS_region ?_
     refine s_y (v := .pointer (some ⟨b_8, 0, none⟩)) (y_fieldAddr (o' := 0) rfl Try.underlying23 rfl Try.sizeOf4 (by decide) rfl) rfl ?_
     refine s_y (v := .bool ((l.getD k default).dead)) (y_load1 rfl Try.isAgg4 (own1 (.t (.t (.t (.t (.t .h))))) rfl)) rfl ?_
     refine s_y (v := .bool (!((l.getD k default).dead))) (y_not (b := (l.getD k default).dead) rfl) rfl ?_
     refine wpL_nil ?_
     refine thenS_n ?_
     refine wpS_cond_T (t := !((l.getD k default).dead)) rfl b13 ?_
     refine wpS_region ?_
     refine s_y (v := .pointer (some ⟨b_8, 1, none⟩)) (y_fieldAddr (o' := 1) rfl Try.underlying23 rfl Try.sizeOf2 (by decide) rfl) rfl ?_
     refine s_y (v := .int .i64 (((l.getD k default).key).toInt)) (y_load1 rfl Try.isAgg2 (own1 (.t (.t (.t (.t (.t .h))))) rfl)) rfl ?_
     refine s_y (v := .pointer (some ⟨b_8, 2, none⟩)) (y_fieldAddr (o' := 2) rfl Try.underlying23 rfl Try.sizeOf2 (by decide) rfl) rfl ?_
     refine s_y (v := .int .i64 (((l.getD k default).value).toInt)) (y_load1 rfl Try.isAgg2 (own1 (.t (.t (.t (.t (.t .h))))) rfl)) rfl ?_
     refine s_y (v := .agg #[.bool false, .int .i64 (((l.getD k default).key).toInt), .int .i64 (((l.getD k default).value).toInt), .int .i64 0]) (y_buildL (m := [(1, .int .i64 (((l.getD k default).key).toInt)), (2, .int .i64 (((l.getD k default).value).toInt))]) (vs := #[.bool false, .int .i64 (((l.getD k default).key).toInt), .int .i64 (((l.getD k default).value).toInt), .int .i64 0]) (evc rfl (evc rfl evn)) (fun w => by kernel_rfl)) rfl ?_
     refine s_e0 ?_
     refine e_store (vs := [.bool false, .int .i64 (((l.getD k default).key).toInt), .int .i64 (((l.getD k default).value).toInt), .int .i64 0]) (l' := [.bool false, .int .i64 (((l.getD k default).key).toInt), .int .i64 (((l.getD k default).value).toInt), .int .i64 0]) rfl rfl rfl rfl Try.sizeOf23 .h (Nat.le_of_ble_eq_true rfl) rfl ?_
     refine wpL_nil ?_
     refine blockS_n ?_
     exact rnd_n ⟨[osl a_28 c_29 ((os ++ [deadR]).length) 4 23 ((os ++ [deadR]).flatMap recV), cel b_5 69 [.slice a_28 (os ++ [deadR]).length c_29], cel b_3 23 [.bool false, .int .i64 0, .int .i64 0, .int .i64 0], cel b_2 23 [.bool ((Rec.mk false ((l.getD k default).key) ((l.getD k default).value) 0).dead), .int .i64 ((Rec.mk false ((l.getD k default).key) ((l.getD k default).value) 0).key.toInt), .int .i64 ((Rec.mk false ((l.getD k default).key) ((l.getD k default).value) 0).value.toInt), .int .i64 ((Rec.mk false ((l.getD k default).key) ((l.getD k default).value) 0).seq.toInt)], cel b_1 84 [.int .i64 kz, .slice a1 n1 c1, .slice a2 n2 c2, .slice a3 n3 c3]], .p (.t (.t .h)) (.p (.t .h) (.p (.t (.t (.t (.t .h)))) (.p .h (.p (.t (.t (.t .h))) .nil)))), ⟨(os ++ [deadR]), (Rec.mk false ((l.getD k default).key) ((l.getD k default).value) 0), a_28, c_29, (run15_step (by assumption) (by omega) (by first | exact cstp_1 (by assumption) (by assumption) (by assumption) | exact cstp_a (by assumption) (by assumption) | exact cstp_b (by assumption) (by assumption) | exact cstp_c (by assumption) (by assumption) | exact cstp_d (by assumption) (by assumption) (by assumption))), (by rw [List.length_append, List.length_singleton]; omega), rfl⟩⟩
   ·
    have b30 : ((l.getD k default).dead) = true := by simpa using b13
    refine s_no rfl rfl rfl rfl (b' := !((l.getD k default).dead)) rfl b13 ?_
    refine s_no rfl rfl rfl rfl (b' := !((l.getD k default).dead)) rfl b13 ?_
    refine s_no rfl rfl rfl rfl (b' := !((l.getD k default).dead)) rfl b13 ?_
    refine s_y (v := .bool false) (y_pickF (b := !((l.getD k default).dead)) rfl b13 rfl) rfl ?_
    refine s_y (v := .bool false) (y_move rfl) rfl ?_
    refine s_no rfl rfl rfl rfl rfl rfl ?_
    refine s_no rfl rfl rfl rfl rfl rfl ?_
    refine s_no rfl rfl rfl rfl rfl rfl ?_
    refine s_no rfl rfl rfl rfl rfl rfl ?_
    refine s_no rfl rfl rfl rfl rfl rfl ?_
    refine s_y (v := .bool false) (y_pickF rfl rfl rfl) rfl ?_
    refine wpL_nil ?_
    refine thenS_n ?_
    refine wpS_cond_f rfl ?_
    refine wpS_skip ?_
    refine thenS_n ?_
    refine wpS_seq ?_
    refine wpS_region ?_
    refine s_y (v := .agg #[.bool deadR.dead, .int .i64 deadR.key.toInt, .int .i64 deadR.value.toInt, .int .i64 deadR.seq.toInt]) (y_call (args := #[]) Try.call49 ev0 (fun w hs => dead_c w)) rfl ?_
    refine s_e rfl ?_
    refine e_alloc (l := [.bool false, .int .i64 0, .int .i64 0, .int .i64 0]) Try.zeroValue23 rfl ?_
    intro b_31
    refine s_e0 ?_
    refine e_store (vs := [.bool deadR.dead, .int .i64 deadR.key.toInt, .int .i64 deadR.value.toInt, .int .i64 deadR.seq.toInt]) (l' := [.bool deadR.dead, .int .i64 deadR.key.toInt, .int .i64 deadR.value.toInt, .int .i64 deadR.seq.toInt]) rfl rfl rfl rfl Try.sizeOf23 .h (Nat.le_of_ble_eq_true rfl) rfl ?_
    refine wpL_nil ?_
    refine thenS_n ?_
    refine wpS_seq ?_
    refine wpS_seq ?_
    refine wpS_region ?_
    refine s_y (v := .pointer (some ⟨b_2, 0, none⟩)) (y_fieldAddr (o' := 0) rfl Try.underlying23 rfl Try.sizeOf4 (by decide) rfl) rfl ?_
    refine s_y (v := .bool cq.dead) (y_load1 rfl Try.isAgg4 (own1 (.t (.t (.t (.t (.t .h))))) rfl)) rfl ?_
    refine s_y (v := .bool (!cq.dead)) (y_not (b := cq.dead) rfl) rfl ?_
    refine wpL_nil ?_
    refine thenS_n ?_
    refine wpS_cond (t := !cq.dead) rfl (fun b32 => ?_) (fun b32 => ?_)
    ·
     have b33 : cq.dead = false := by simpa using b32
     refine wpS_anyL [cel b_2 23 [.bool cq.dead, .int .i64 cq.key.toInt, .int .i64 cq.value.toInt, .int .i64 cq.seq.toInt], cel b_1 84 [.int .i64 kz, .slice a1 n1 c1, .slice a2 n2 c2, .slice a3 n3 c3]] [] (by kernel_rfl) ?_
     refine anyS_take (i := 0) rfl (by kernel_rfl) (by kernel_rfl) (by kernel_rfl) (by kernel_rfl) (Yq.of (v := .pointer (some ⟨b_2, 1, none⟩)) (y_fieldAddr (o' := 1) rfl Try.underlying23 rfl Try.sizeOf2 (by decide) rfl) rfl) (.p (.t (.t (.t (.t (.t .h))))) (.p (.t (.t (.t (.t (.t .h))))) .nil)) ?_
     refine anyS_take (i := 1) rfl (by kernel_rfl) (by kernel_rfl) (by kernel_rfl) (by kernel_rfl) (Yq.of (v := .int .i64 cq.key.toInt) (y_load1 rfl Try.isAgg2 (own1 .h rfl)) rfl) (.p (.t (.t (.t (.t (.t .h))))) (.p (.t (.t (.t (.t (.t .h))))) .nil)) ?_
     refine anyS_take (i := 2) rfl (by kernel_rfl) (by kernel_rfl) (by kernel_rfl) (by kernel_rfl) (Yq.of (v := .agg #[.int .i64 kz, .slice a1 n1 c1, .slice a2 n2 c2, .slice a3 n3 c3]) (y_loadN rfl Try.isAgg84 Try.sizeOf84 (ownN (.t .h) rfl)) rfl) (.p (.t (.t (.t (.t (.t .h))))) (.p (.t (.t (.t (.t (.t .h))))) .nil)) ?_
     refine anyS_take (i := 3) rfl (by kernel_rfl) (by kernel_rfl) (by kernel_rfl) (by kernel_rfl) (Yq.of (v := .pointer (some ⟨b_2, 1, none⟩)) (y_fieldAddr (o' := 1) rfl Try.underlying23 rfl Try.sizeOf2 (by decide) rfl) rfl) (.p (.t (.t (.t (.t (.t .h))))) (.p (.t (.t (.t (.t (.t .h))))) .nil)) ?_
     refine anyS_take (i := 4) rfl (by kernel_rfl) (by kernel_rfl) (by kernel_rfl) (by kernel_rfl) (Yq.of (v := .int .i64 cq.key.toInt) (y_load1 rfl Try.isAgg2 (own1 .h rfl)) rfl) (.p (.t (.t (.t (.t (.t .h))))) (.p (.t (.t (.t (.t (.t .h))))) .nil)) ?_
     refine anyS_take (i := 5) rfl (by kernel_rfl) (by kernel_rfl) (by kernel_rfl) (by kernel_rfl) (Yq.of (v := .pointer (some ⟨b_2, 2, none⟩)) (y_fieldAddr (o' := 2) rfl Try.underlying23 rfl Try.sizeOf2 (by decide) rfl) rfl) (.p (.t (.t (.t (.t (.t .h))))) (.p (.t (.t (.t (.t (.t .h))))) .nil)) ?_
     refine anyS_take (i := 6) rfl (by kernel_rfl) (by kernel_rfl) (by kernel_rfl) (by kernel_rfl) (Yq.of (v := .int .i64 cq.value.toInt) (y_load1 rfl Try.isAgg2 (own1 .h rfl)) rfl) (.p (.t (.t (.t (.t (.t .h))))) (.p (.t (.t (.t (.t (.t .h))))) .nil)) ?_
     refine anyS_take (i := 7) rfl (by kernel_rfl) (by kernel_rfl) (by kernel_rfl) (by kernel_rfl) (Yq.of (v := .int .i64 ((doneC (chkB kz l1 l2 l3) l3 cq.value cq.key).toInt)) (y_call (args := #[.agg #[.int .i64 kz, .slice a1 n1 c1, .slice a2 n2 c2, .slice a3 n3 c3], .int .i64 cq.key.toInt, .int .i64 cq.value.toInt]) Try.call89 (ev3 rfl rfl rfl) (fun w hs => finish_c kz a1 a2 a3 n1 c1 n2 c2 n3 c3 l1 l2 l3 cq.key cq.value w hn1 ((hrd10 _) w hs) (by omega) hn2 ((hrd11 _) w hs) (by omega) hn3 ((hrd12 _) w hs) (by omega))) rfl) (.p (.t (.t (.t (.t (.t .h))))) (.p (.t (.t (.t (.t (.t .h))))) .nil)) ?_
     refine anyS_take (i := 8) rfl (by kernel_rfl) (by kernel_rfl) (by kernel_rfl) (by kernel_rfl) (Yq.of (v := .agg #[.bool false, .int .i64 cq.key.toInt, .int .i64 ((doneC (chkB kz l1 l2 l3) l3 cq.value cq.key).toInt), .int .i64 0]) (y_buildL (m := [(1, .int .i64 cq.key.toInt), (2, .int .i64 ((doneC (chkB kz l1 l2 l3) l3 cq.value cq.key).toInt))]) (vs := #[.bool false, .int .i64 cq.key.toInt, .int .i64 ((doneC (chkB kz l1 l2 l3) l3 cq.value cq.key).toInt), .int .i64 0]) (evc rfl (evc rfl evn)) (fun w => by kernel_rfl)) rfl) (.p (.t (.t (.t (.t (.t .h))))) (.p (.t (.t (.t (.t (.t .h))))) .nil)) ?_
     refine anyS_all (rs := [9]) (by kernel_rfl) (by simp) ?_
     intro i hi; obtain rfl := List.mem_singleton.1 hi; clear hi
     refine opS_0 rfl rfl ?_
     refine e_store (vs := [.bool false, .int .i64 cq.key.toInt, .int .i64 ((doneC (chkB kz l1 l2 l3) l3 cq.value cq.key).toInt), .int .i64 0]) (l' := [.bool false, .int .i64 cq.key.toInt, .int .i64 ((doneC (chkB kz l1 l2 l3) l3 cq.value cq.key).toInt), .int .i64 0]) rfl rfl rfl rfl Try.sizeOf23 .h (Nat.le_of_ble_eq_true rfl) rfl ?_
     refine ⟨.inr (.p (.t (.t (.t (.t (.t .h))))) (.p (.t (.t (.t (.t (.t .h))))) .nil)), ?_⟩
     refine anyS_done (by kernel_rfl) ?_
     refine thenS_n ?_
     refine wpS_seq ?_
     refine wpS_region ?_
     refine s_y (v := .slice b1 os.length d1) (y_load1 rfl Try.isAgg69 (own1 (.t (.t (.t .h))) rfl)) rfl ?_
     refine s_y (v := .agg #[.bool false, .int .i64 cq.key.toInt, .int .i64 ((doneC (chkB kz l1 l2 l3) l3 cq.value cq.key).toInt), .int .i64 0]) (y_loadN rfl Try.isAgg23 Try.sizeOf23 (ownN .h rfl)) rfl ?_
     refine s_e rfl ?_
     refine e_bsliceL (e := 23) (m := [(0, .agg #[.bool false, .int .i64 cq.key.toInt, .int .i64 ((doneC (chkB kz l1 l2 l3) l3 cq.value cq.key).toInt), .int .i64 0])]) (l := [.bool false, .int .i64 cq.key.toInt, .int .i64 ((doneC (chkB kz l1 l2 l3) l3 cq.value cq.key).toInt), .int .i64 0]) (evc rfl evn) (fun w => by kernel_rfl) ?_
     intro b_34
     refine s_e rfl ?_
     refine e_appendL (enc := recV) (xs := (os : List Rec)) (ns := ([(Rec.mk false cq.key (doneC (chkB kz l1 l2 l3) l3 cq.value cq.key) 0)] : List Rec)) (zs := (os ++ [(Rec.mk false cq.key (doneC (chkB kz l1 l2 l3) l3 cq.value cq.key) 0)])) (bytes := 32) recV_len recV_one Try.underlying69 (i := Try.t23) rfl rfl rfl rfl rfl (by decide) rfl rfl (by first | rfl | omega) (by first | rfl | omega) (.t (.t (.t .h))) (fun w hs => celR .h w hs) (by first | rfl | simp) (by (try simp only [List.length_append, List.length_cons, List.length_nil] at *); omega) (by (try simp only [List.length_append, List.length_cons, List.length_nil] at *); omega) ?_
     intro a_35 c_36
     refine s_e0 ?_
     refine e_store (vs := [.slice a_35 ((os ++ [(Rec.mk false cq.key (doneC (chkB kz l1 l2 l3) l3 cq.value cq.key) 0)]).length) c_36]) (l' := [.slice a_35 ((os ++ [(Rec.mk false cq.key (doneC (chkB kz l1 l2 l3) l3 cq.value cq.key) 0)]).length) c_36]) rfl rfl rfl rfl Try.sizeOf69 (.t (.t (.t (.t .h)))) (Nat.le_of_ble_eq_true rfl) rfl ?_
     refine wpL_nil ?_
     refine thenS_n ?_
     refine wpS_seq ?_
     refine wpS_region ?_
     refine s_y (v := .agg #[.bool deadR.dead, .int .i64 deadR.key.toInt, .int .i64 deadR.value.toInt, .int .i64 deadR.seq.toInt]) (y_call (args := #[]) Try.call49 ev0 (fun w hs => dead_c w)) rfl ?_
     refine s_e0 ?_
     refine e_store (vs := [.bool deadR.dead, .int .i64 deadR.key.toInt, .int .i64 deadR.value.toInt, .int .i64 deadR.seq.toInt]) (l' := [.bool deadR.dead, .int .i64 deadR.key.toInt, .int .i64 deadR.value.toInt, .int .i64 deadR.seq.toInt]) rfl rfl rfl rfl Try.sizeOf23 (.t (.t (.t (.t (.t (.t .h)))))) (Nat.le_of_ble_eq_true rfl) rfl ?_
     refine wpL_nil ?_
     refine thenS_n ?_
     refine wpS_seq ?_
     refine wpS_region ?_
     refine s_y (v := .pointer (some ⟨b_8, 0, none⟩)) (y_fieldAddr (o' := 0) rfl Try.underlying23 rfl Try.sizeOf4 (by decide) rfl) rfl ?_
     refine s_y (v := .bool ((l.getD k default).dead)) (y_load1 rfl Try.isAgg4 (own1 (.t (.t (.t (.t (.t .h))))) rfl)) rfl ?_
     refine s_y (v := .bool (!((l.getD k default).dead))) (y_not (b := (l.getD k default).dead) rfl) rfl ?_
     refine wpL_nil ?_
     refine thenS_n ?_
     refine wpS_cond_F (t := !((l.getD k default).dead)) rfl b13 ?_
     refine wpS_skip ?_
     refine blockS_n ?_
     exact rnd_n ⟨[osl a_35 c_36 ((os ++ [(Rec.mk false cq.key (doneC (chkB kz l1 l2 l3) l3 cq.value cq.key) 0)]).length) 4 23 ((os ++ [(Rec.mk false cq.key (doneC (chkB kz l1 l2 l3) l3 cq.value cq.key) 0)]).flatMap recV), cel b_5 69 [.slice a_35 (os ++ [(Rec.mk false cq.key (doneC (chkB kz l1 l2 l3) l3 cq.value cq.key) 0)]).length c_36], cel b_3 23 [.bool false, .int .i64 0, .int .i64 0, .int .i64 0], cel b_2 23 [.bool deadR.dead, .int .i64 deadR.key.toInt, .int .i64 deadR.value.toInt, .int .i64 deadR.seq.toInt], cel b_1 84 [.int .i64 kz, .slice a1 n1 c1, .slice a2 n2 c2, .slice a3 n3 c3]], .p (.t (.t .h)) (.p (.t .h) (.p (.t (.t (.t (.t .h)))) (.p .h (.p (.t (.t (.t .h))) .nil)))), ⟨(os ++ [(Rec.mk false cq.key (doneC (chkB kz l1 l2 l3) l3 cq.value cq.key) 0)]), deadR, a_35, c_36, (run15_step (by assumption) (by omega) (by first | exact cstp_1 (by assumption) (by assumption) (by assumption) | exact cstp_a (by assumption) (by assumption) | exact cstp_b (by assumption) (by assumption) | exact cstp_c (by assumption) (by assumption) | exact cstp_d (by assumption) (by assumption) (by assumption))), (by rw [List.length_append, List.length_singleton]; omega), rfl⟩⟩
    ·
     have b37 : cq.dead = true := by simpa using b32
     refine wpS_skip ?_
     refine thenS_n ?_
     refine wpS_seq ?_
     refine wpS_region ?_
     refine s_y (v := .slice b1 os.length d1) (y_load1 rfl Try.isAgg69 (own1 (.t (.t (.t .h))) rfl)) rfl ?_
     refine s_y (v := .agg #[.bool deadR.dead, .int .i64 deadR.key.toInt, .int .i64 deadR.value.toInt, .int .i64 deadR.seq.toInt]) (y_loadN rfl Try.isAgg23 Try.sizeOf23 (ownN .h rfl)) rfl ?_
     refine s_e rfl ?_
     refine e_bsliceL (e := 23) (m := [(0, .agg #[.bool deadR.dead, .int .i64 deadR.key.toInt, .int .i64 deadR.value.toInt, .int .i64 deadR.seq.toInt])]) (l := [.bool deadR.dead, .int .i64 deadR.key.toInt, .int .i64 deadR.value.toInt, .int .i64 deadR.seq.toInt]) (evc rfl evn) (fun w => by kernel_rfl) ?_
     intro b_38
     refine s_e rfl ?_
     refine e_appendL (enc := recV) (xs := (os : List Rec)) (ns := ([deadR] : List Rec)) (zs := (os ++ [deadR])) (bytes := 32) recV_len recV_one Try.underlying69 (i := Try.t23) rfl rfl rfl rfl rfl (by decide) rfl rfl (by first | rfl | omega) (by first | rfl | omega) (.t (.t (.t .h))) (fun w hs => celR .h w hs) (by first | rfl | simp) (by (try simp only [List.length_append, List.length_cons, List.length_nil] at *); omega) (by (try simp only [List.length_append, List.length_cons, List.length_nil] at *); omega) ?_
     intro a_39 c_40
     refine s_e0 ?_
     refine e_store (vs := [.slice a_39 ((os ++ [deadR]).length) c_40]) (l' := [.slice a_39 ((os ++ [deadR]).length) c_40]) rfl rfl rfl rfl Try.sizeOf69 (.t (.t (.t (.t .h)))) (Nat.le_of_ble_eq_true rfl) rfl ?_
     refine wpL_nil ?_
     refine thenS_n ?_
     refine wpS_seq ?_
     refine wpS_region ?_
     refine s_y (v := .agg #[.bool deadR.dead, .int .i64 deadR.key.toInt, .int .i64 deadR.value.toInt, .int .i64 deadR.seq.toInt]) (y_call (args := #[]) Try.call49 ev0 (fun w hs => dead_c w)) rfl ?_
     refine s_e0 ?_
     refine e_store (vs := [.bool deadR.dead, .int .i64 deadR.key.toInt, .int .i64 deadR.value.toInt, .int .i64 deadR.seq.toInt]) (l' := [.bool deadR.dead, .int .i64 deadR.key.toInt, .int .i64 deadR.value.toInt, .int .i64 deadR.seq.toInt]) rfl rfl rfl rfl Try.sizeOf23 (.t (.t (.t (.t (.t (.t .h)))))) (Nat.le_of_ble_eq_true rfl) rfl ?_
     refine wpL_nil ?_
     refine thenS_n ?_
     refine wpS_seq ?_
     refine wpS_region ?_
     refine s_y (v := .pointer (some ⟨b_8, 0, none⟩)) (y_fieldAddr (o' := 0) rfl Try.underlying23 rfl Try.sizeOf4 (by decide) rfl) rfl ?_
     refine s_y (v := .bool ((l.getD k default).dead)) (y_load1 rfl Try.isAgg4 (own1 (.t (.t (.t (.t (.t .h))))) rfl)) rfl ?_
     refine s_y (v := .bool (!((l.getD k default).dead))) (y_not (b := (l.getD k default).dead) rfl) rfl ?_
     refine wpL_nil ?_
     refine thenS_n ?_
     refine wpS_cond_F (t := !((l.getD k default).dead)) rfl b13 ?_
     refine wpS_skip ?_
     refine blockS_n ?_
     exact rnd_n ⟨[osl a_39 c_40 ((os ++ [deadR]).length) 4 23 ((os ++ [deadR]).flatMap recV), cel b_5 69 [.slice a_39 (os ++ [deadR]).length c_40], cel b_3 23 [.bool false, .int .i64 0, .int .i64 0, .int .i64 0], cel b_2 23 [.bool deadR.dead, .int .i64 deadR.key.toInt, .int .i64 deadR.value.toInt, .int .i64 deadR.seq.toInt], cel b_1 84 [.int .i64 kz, .slice a1 n1 c1, .slice a2 n2 c2, .slice a3 n3 c3]], .p (.t (.t .h)) (.p (.t .h) (.p (.t (.t (.t (.t .h)))) (.p .h (.p (.t (.t (.t .h))) .nil)))), ⟨(os ++ [deadR]), deadR, a_39, c_40, (run15_step (by assumption) (by omega) (by first | exact cstp_1 (by assumption) (by assumption) (by assumption) | exact cstp_a (by assumption) (by assumption) | exact cstp_b (by assumption) (by assumption) | exact cstp_c (by assumption) (by assumption) | exact cstp_d (by assumption) (by assumption) (by assumption))), (by rw [List.length_append, List.length_singleton]; omega), rfl⟩⟩
  ·
   rintro d_7 A' ⟨os, cq, b1, d1, hf0_7, hf1_7, rfl⟩
   refine blockS_n ?_
   refine thenS_n ?_
   refine wpS_seq ?_
   refine wpS_seq ?_
   refine wpS_region ?_
   refine s_y (v := .pointer (some ⟨b_2, 0, none⟩)) (y_fieldAddr (o' := 0) rfl Try.underlying23 rfl Try.sizeOf4 (by decide) rfl) rfl ?_
   refine s_y (v := .bool cq.dead) (y_load1 rfl Try.isAgg4 (own1 (.t (.t (.t (.t .h)))) rfl)) rfl ?_
   refine wpL_nil ?_
   refine thenS_n ?_
   refine wpS_cond (t := cq.dead) rfl (fun b41 => ?_) (fun b41 => ?_)
   ·
    refine wpS_seq ?_
    refine wpS_anyL [cel b_5 69 [.slice b1 os.length d1]] [] (by kernel_rfl) ?_
    refine anyS_take (i := 0) rfl (by kernel_rfl) (by kernel_rfl) (by kernel_rfl) (by kernel_rfl) (Yq.of (v := .slice b1 os.length d1) (y_load1 rfl Try.isAgg69 (own1 .h rfl)) rfl) (.p (.t (.t .h)) .nil) ?_
    refine anyS_take (i := 1) rfl (by kernel_rfl) (by kernel_rfl) (by kernel_rfl) (by kernel_rfl) (Yq.of (v := .agg #[.bool deadR.dead, .int .i64 deadR.key.toInt, .int .i64 deadR.value.toInt, .int .i64 deadR.seq.toInt]) (y_call (args := #[]) Try.call49 ev0 (fun w hs => dead_c w)) rfl) (.p (.t (.t .h)) .nil) ?_
    refine anyS_take (i := 2) rfl (by kernel_rfl) (by kernel_rfl) (by kernel_rfl) (by kernel_rfl) (Yq.of (v := .slice b1 os.length d1) (y_assign rfl) rfl) (.p (.t (.t .h)) .nil) ?_
    refine anyS_all (rs := [3]) (by kernel_rfl) (by simp) ?_
    intro i hi; obtain rfl := List.mem_singleton.1 hi; clear hi
    refine opS_0 rfl rfl ?_
    refine e_store (vs := [.bool deadR.dead, .int .i64 deadR.key.toInt, .int .i64 deadR.value.toInt, .int .i64 deadR.seq.toInt]) (l' := [.bool deadR.dead, .int .i64 deadR.key.toInt, .int .i64 deadR.value.toInt, .int .i64 deadR.seq.toInt]) rfl rfl rfl rfl Try.sizeOf23 (.t (.t (.t .h))) (Nat.le_of_ble_eq_true rfl) rfl ?_
    refine ⟨.inr (.p (.t (.t (.t .h))) .nil), ?_⟩
    refine anyS_done (by kernel_rfl) ?_
    refine thenS_n ?_
    refine wpS_ret ?_
    refine thenS_r ?_
    refine scopeS_r ?_
    refine fin2 (M := [cel b_3 23 [.bool deadR.dead, .int .i64 deadR.key.toInt, .int .i64 deadR.value.toInt, .int .i64 deadR.seq.toInt], osl b1 d1 os.length 4 23 (os.flatMap recV)]) (.inr rfl) (.p (.t .h) (.p .h (.p .h .nil))) Try.results91 (rvT (v := .slice b1 os.length d1) rfl) (rvC (vs := [.bool deadR.dead, .int .i64 deadR.key.toInt, .int .i64 deadR.value.toInt, .int .i64 deadR.seq.toInt]) rfl Try.isAgg23 Try.sizeOf23 (fun w hs => ownN .h rfl w hs)) ?_
    have e0 := by have h0 := (by assumption : (os, cq) = _); rw [List.take_of_length_le (by omega)] at h0; exact h0
    have e1 : stepO (chkB kz l1 l2 l3) l2 l3 cr l = os := by unfold stepO; rw [if_pos hok, ← e0]
    have e2 : stepC (chkB kz l1 l2 l3) l2 l3 cr l = deadR := by unfold stepC normC; rw [if_pos hok, ← e0]; first | rw [if_pos (show cq.dead = false by assumption)] | (rw [if_neg (show ¬ cq.dead = false by rw [(by assumption : cq.dead = true)]; decide)]; done) | (rw [if_neg (show ¬ cq.dead = false by rw [(by assumption : cq.dead = true)]; decide)]; rfl)
    exact fun w' hs => ⟨(b1, d1), by first | (rw [e1, e2]; done) | (rw [e1, e2]; rfl), by rw [e1]; exact hs.ent (.p (.t .h) .nil), trivial⟩
   ·
    refine wpS_skip ?_
    refine thenS_n ?_
    refine wpS_seq ?_
    refine wpS_anyL [cel b_5 69 [.slice b1 os.length d1], cel b_2 23 [.bool cq.dead, .int .i64 cq.key.toInt, .int .i64 cq.value.toInt, .int .i64 cq.seq.toInt]] [] (by kernel_rfl) ?_
    refine anyS_take (i := 0) rfl (by kernel_rfl) (by kernel_rfl) (by kernel_rfl) (by kernel_rfl) (Yq.of (v := .slice b1 os.length d1) (y_load1 rfl Try.isAgg69 (own1 .h rfl)) rfl) (.p (.t (.t .h)) (.p (.t (.t (.t .h))) .nil)) ?_
    refine anyS_take (i := 1) rfl (by kernel_rfl) (by kernel_rfl) (by kernel_rfl) (by kernel_rfl) (Yq.of (v := .pointer (some ⟨b_2, 1, none⟩)) (y_fieldAddr (o' := 1) rfl Try.underlying23 rfl Try.sizeOf2 (by decide) rfl) rfl) (.p (.t (.t .h)) (.p (.t (.t (.t .h))) .nil)) ?_
    refine anyS_take (i := 2) rfl (by kernel_rfl) (by kernel_rfl) (by kernel_rfl) (by kernel_rfl) (Yq.of (v := .int .i64 cq.key.toInt) (y_load1 rfl Try.isAgg2 (own1 (.t .h) rfl)) rfl) (.p (.t (.t .h)) (.p (.t (.t (.t .h))) .nil)) ?_
    refine anyS_take (i := 3) rfl (by kernel_rfl) (by kernel_rfl) (by kernel_rfl) (by kernel_rfl) (Yq.of (v := .pointer (some ⟨b_2, 2, none⟩)) (y_fieldAddr (o' := 2) rfl Try.underlying23 rfl Try.sizeOf2 (by decide) rfl) rfl) (.p (.t (.t .h)) (.p (.t (.t (.t .h))) .nil)) ?_
    refine anyS_take (i := 4) rfl (by kernel_rfl) (by kernel_rfl) (by kernel_rfl) (by kernel_rfl) (Yq.of (v := .int .i64 cq.value.toInt) (y_load1 rfl Try.isAgg2 (own1 (.t .h) rfl)) rfl) (.p (.t (.t .h)) (.p (.t (.t (.t .h))) .nil)) ?_
    refine anyS_take (i := 5) rfl (by kernel_rfl) (by kernel_rfl) (by kernel_rfl) (by kernel_rfl) (Yq.of (v := .agg #[.bool false, .int .i64 cq.key.toInt, .int .i64 cq.value.toInt, .int .i64 0]) (y_buildL (m := [(1, .int .i64 cq.key.toInt), (2, .int .i64 cq.value.toInt)]) (vs := #[.bool false, .int .i64 cq.key.toInt, .int .i64 cq.value.toInt, .int .i64 0]) (evc rfl (evc rfl evn)) (fun w => by kernel_rfl)) rfl) (.p (.t (.t .h)) (.p (.t (.t (.t .h))) .nil)) ?_
    refine anyS_take (i := 6) rfl (by kernel_rfl) (by kernel_rfl) (by kernel_rfl) (by kernel_rfl) (Yq.of (v := .slice b1 os.length d1) (y_assign rfl) rfl) (.p (.t (.t .h)) (.p (.t (.t (.t .h))) .nil)) ?_
    refine anyS_all (rs := [7]) (by kernel_rfl) (by simp) ?_
    intro i hi; obtain rfl := List.mem_singleton.1 hi; clear hi
    refine opS_0 rfl rfl ?_
    refine e_store (vs := [.bool false, .int .i64 cq.key.toInt, .int .i64 cq.value.toInt, .int .i64 0]) (l' := [.bool false, .int .i64 cq.key.toInt, .int .i64 cq.value.toInt, .int .i64 0]) rfl rfl rfl rfl Try.sizeOf23 (.t (.t (.t .h))) (Nat.le_of_ble_eq_true rfl) rfl ?_
    refine ⟨.inr (.p (.t (.t (.t .h))) (.p (.t (.t (.t .h))) .nil)), ?_⟩
    refine anyS_done (by kernel_rfl) ?_
    refine thenS_n ?_
    refine wpS_ret ?_
    refine scopeS_r ?_
    refine fin2 (M := [cel b_3 23 [.bool false, .int .i64 cq.key.toInt, .int .i64 cq.value.toInt, .int .i64 0], osl b1 d1 os.length 4 23 (os.flatMap recV)]) (.inr rfl) (.p (.t .h) (.p .h (.p .h .nil))) Try.results91 (rvT (v := .slice b1 os.length d1) rfl) (rvC (vs := [.bool false, .int .i64 cq.key.toInt, .int .i64 cq.value.toInt, .int .i64 0]) rfl Try.isAgg23 Try.sizeOf23 (fun w hs => ownN .h rfl w hs)) ?_
    have e0 := by have h0 := (by assumption : (os, cq) = _); rw [List.take_of_length_le (by omega)] at h0; exact h0
    have e1 : stepO (chkB kz l1 l2 l3) l2 l3 cr l = os := by unfold stepO; rw [if_pos hok, ← e0]
    have e2 : stepC (chkB kz l1 l2 l3) l2 l3 cr l = (Rec.mk false cq.key cq.value 0) := by unfold stepC normC; rw [if_pos hok, ← e0]; first | rw [if_pos (show cq.dead = false by assumption)] | (rw [if_neg (show ¬ cq.dead = false by rw [(by assumption : cq.dead = true)]; decide)]; done) | (rw [if_neg (show ¬ cq.dead = false by rw [(by assumption : cq.dead = true)]; decide)]; rfl)
    exact fun w' hs => ⟨(b1, d1), by first | (rw [e1, e2]; done) | (rw [e1, e2]; rfl), by rw [e1]; exact hs.ent (.p (.t .h) .nil), trivial⟩
  ·
   intro _ _ _ _ _ h; exact h.elim
theorem and_mk {y : Nat} (h : y < 9) : ((y : Nat) : Int).toNat &&& (4294967295 : Int).toNat = y := by
  have : ∀ y, y < 9 → ((y : Nat) : Int).toNat &&& (4294967295 : Int).toNat = y := by decide +kernel
  exact this y h
theorem rep_1 {S : Nat} (x z : Rec) (h : 1 ≤ S) : (List.replicate S z).take 0 ++ [x].take 1 ++ (List.replicate S z).drop (0 + 1) = List.replicate 1 x ++ List.replicate (S - 1) z := by simp
theorem rep_q {S j : Nat} (x z : Rec) (h : j ≤ S) : (List.replicate j x ++ List.replicate (S - j) z).take j ++ (List.replicate j x).take (min j (S - j)) ++ (List.replicate j x ++ List.replicate (S - j) z).drop (j + min j (S - j)) = List.replicate (j + min j (S - j)) x ++ List.replicate (S - (j + min j (S - j))) z := by
  rw [List.take_append_of_le_length (by simp), List.take_of_length_le (by simp), List.drop_append, List.drop_of_length_le (by simp), List.take_replicate, List.drop_replicate, List.nil_append, List.length_replicate, List.replicate_append_replicate]
  congr 2
  · omega
  · omega
theorem sub_at {a : Option Addr} {b cap j : Nat} (h : a = some ⟨b, 0, none⟩) (hj : cap ≠ j) : subA a cap j 4 = some ⟨b, j * 4, none⟩ := by
  subst h
  unfold subA
  rw [if_neg hj]
  simp [Addr.add_lit]
theorem pbit_c (b : Bool) (w : World) : Pure Try.prog 243 #[.bool b] w (.int .u64 ((b64 b).toNat)) := by
 refine calls_S (n := 4) (σ0 := (upd fr0 0 (.bool b))) (D := []) (A := []) Try.func243 rfl Try.ntmps243 rfl (a1_fr _) (SH.start w) ?_
 refine wpS_seq ?_
 refine wpS_region ?_
 refine s_y (v := .int .u64 0) (y_assign rfl) rfl ?_
 refine wpL_nil ?_
 refine thenS_n ?_
 refine wpS_seq ?_
 refine wpS_seq ?_
 refine wpS_region ?_
 refine s_y (v := .bool b) (y_move rfl) rfl ?_
 refine wpL_nil ?_
 refine thenS_n ?_
 refine wpS_cond (t := b) rfl (fun b1 => ?_) (fun b1 => ?_)
 ·
  subst b1
  refine wpS_seq ?_
  refine wpS_region ?_
  refine s_y (v := .int .u64 1) (y_assign rfl) rfl ?_
  refine wpL_nil ?_
  refine thenS_n ?_
  refine wpS_ret ?_
  refine thenS_r ?_
  refine fin1 (M := []) (v := .int .u64 1) (.inr rfl) (.nil) Try.results243 rfl ?_
  exact fun w' hs => ⟨rfl, hs⟩
 ·
  subst b1
  refine wpS_skip ?_
  refine thenS_n ?_
  refine wpS_seq ?_
  refine wpS_region ?_
  refine s_y (v := .int .u64 0) (y_assign rfl) rfl ?_
  refine wpL_nil ?_
  refine thenS_n ?_
  refine wpS_ret ?_
  refine fin1 (M := []) (v := .int .u64 0) (.inr rfl) (.nil) Try.results243 rfl ?_
  exact fun w' hs => ⟨rfl, hs⟩
theorem mul1_c (y : Nat) (w : World) (hy : y < 9) : Pure Try.prog 249 #[.int .u64 1, .int .u64 ((y : Nat) : Int)] w (.tuple #[.int .u64 0, .int .u64 ((y : Nat) : Int)]) := by
 refine calls_S (n := 51) (σ0 := (upd (upd fr0 0 (.int .u64 1)) 1 (.int .u64 ((y : Nat) : Int)))) (D := []) (A := []) Try.func249 rfl Try.ntmps249 rfl (a2_fr _ _) (SH.start w) ?_
 refine wpS_seq ?_
 refine wpS_region ?_
 refine s_y (v := .int .u64 0) (y_assign rfl) rfl ?_
 refine s_y (v := .int .u64 0) (y_assign rfl) rfl ?_
 refine wpL_nil ?_
 refine thenS_n ?_
 refine wpS_seq ?_
 refine wpS_region ?_
 refine s_y (v := .int .u64 1) (y_move rfl) rfl ?_
 refine s_y (v := .int .u64 1) (y_and (a := 1) (b := 4294967295) rfl rfl (by decide)) rfl ?_
 refine s_y (v := .int .u64 1) (y_assign rfl) rfl ?_
 refine wpL_nil ?_
 refine thenS_n ?_
 refine wpS_seq ?_
 refine wpS_region ?_
 refine s_y (v := .int .u64 1) (y_move rfl) rfl ?_
 refine s_y (v := .int .u64 0) (y_shr (a := 1) (b := 32) rfl rfl (by decide) (by decide)) rfl ?_
 refine s_y (v := .int .u64 0) (y_assign rfl) rfl ?_
 refine wpL_nil ?_
 refine thenS_n ?_
 refine wpS_seq ?_
 refine wpS_region ?_
 refine s_y (v := .int .u64 ((y : Nat) : Int)) (y_move rfl) rfl ?_
 refine s_y (v := .int .u64 ((y : Nat) : Int)) (y_and (a := ((y : Nat) : Int)) (b := 4294967295) rfl rfl ((zu_and ((y : Nat) : Int) 4294967295 (by omega) (by omega) (by omega) (by omega)).trans (congrArg (Nat.cast : Nat → Int) (and_mk (by omega))))) rfl ?_
 refine s_y (v := .int .u64 ((y : Nat) : Int)) (y_assign rfl) rfl ?_
 refine wpL_nil ?_
 refine thenS_n ?_
 refine wpS_seq ?_
 refine wpS_region ?_
 refine s_y (v := .int .u64 ((y : Nat) : Int)) (y_move rfl) rfl ?_
 refine s_y (v := .int .u64 0) (y_shr (a := ((y : Nat) : Int)) (b := 32) rfl rfl (by decide) ((zn_shr ((y : Nat) : Int) 32 4294967296 (by decide) (by decide) (by omega)).trans (by omega))) rfl ?_
 refine s_y (v := .int .u64 0) (y_assign rfl) rfl ?_
 refine wpL_nil ?_
 refine thenS_n ?_
 refine wpS_seq ?_
 refine wpS_region ?_
 refine s_y (v := .int .u64 1) (y_move rfl) rfl ?_
 refine s_y (v := .int .u64 ((y : Nat) : Int)) (y_move rfl) rfl ?_
 refine s_y (v := .int .u64 ((y : Nat) : Int)) (y_mul (a := 1) (b := ((y : Nat) : Int)) rfl rfl (wU (by omega) (by omega) (by omega))) rfl ?_
 refine s_y (v := .int .u64 ((y : Nat) : Int)) (y_assign rfl) rfl ?_
 refine wpL_nil ?_
 refine thenS_n ?_
 refine wpS_seq ?_
 refine wpS_region ?_
 refine s_y (v := .int .u64 0) (y_move rfl) rfl ?_
 refine s_y (v := .int .u64 ((y : Nat) : Int)) (y_move rfl) rfl ?_
 refine s_y (v := .int .u64 0) (y_mul (a := 0) (b := ((y : Nat) : Int)) rfl rfl (wU (by omega) (by omega) (by omega))) rfl ?_
 refine s_y (v := .int .u64 ((y : Nat) : Int)) (y_move rfl) rfl ?_
 refine s_y (v := .int .u64 0) (y_shr (a := ((y : Nat) : Int)) (b := 32) rfl rfl (by decide) ((zn_shr ((y : Nat) : Int) 32 4294967296 (by decide) (by decide) (by omega)).trans (by omega))) rfl ?_
 refine s_y (v := .int .u64 0) (y_add (a := 0) (b := 0) rfl rfl (by decide)) rfl ?_
 refine s_y (v := .int .u64 0) (y_assign rfl) rfl ?_
 refine wpL_nil ?_
 refine thenS_n ?_
 refine wpS_seq ?_
 refine wpS_region ?_
 refine s_y (v := .int .u64 0) (y_move rfl) rfl ?_
 refine s_y (v := .int .u64 0) (y_and (a := 0) (b := 4294967295) rfl rfl (by decide)) rfl ?_
 refine s_y (v := .int .u64 0) (y_assign rfl) rfl ?_
 refine wpL_nil ?_
 refine thenS_n ?_
 refine wpS_seq ?_
 refine wpS_region ?_
 refine s_y (v := .int .u64 0) (y_move rfl) rfl ?_
 refine s_y (v := .int .u64 0) (y_shr (a := 0) (b := 32) rfl rfl (by decide) (by decide)) rfl ?_
 refine s_y (v := .int .u64 0) (y_assign rfl) rfl ?_
 refine wpL_nil ?_
 refine thenS_n ?_
 refine wpS_seq ?_
 refine wpS_region ?_
 refine s_y (v := .int .u64 0) (y_move rfl) rfl ?_
 refine s_y (v := .int .u64 1) (y_move rfl) rfl ?_
 refine s_y (v := .int .u64 0) (y_move rfl) rfl ?_
 refine s_y (v := .int .u64 0) (y_mul (a := 1) (b := 0) rfl rfl (by decide)) rfl ?_
 refine s_y (v := .int .u64 0) (y_add (a := 0) (b := 0) rfl rfl (by decide)) rfl ?_
 refine s_y (v := .int .u64 0) (y_assign rfl) rfl ?_
 refine wpL_nil ?_
 refine thenS_n ?_
 refine wpS_seq ?_
 refine wpS_region ?_
 refine s_y (v := .int .u64 0) (y_move rfl) rfl ?_
 refine s_y (v := .int .u64 0) (y_move rfl) rfl ?_
 refine s_y (v := .int .u64 0) (y_mul (a := 0) (b := 0) rfl rfl (by decide)) rfl ?_
 refine s_y (v := .int .u64 0) (y_move rfl) rfl ?_
 refine s_y (v := .int .u64 0) (y_add (a := 0) (b := 0) rfl rfl (by decide)) rfl ?_
 refine s_y (v := .int .u64 0) (y_move rfl) rfl ?_
 refine s_y (v := .int .u64 0) (y_shr (a := 0) (b := 32) rfl rfl (by decide) (by decide)) rfl ?_
 refine s_y (v := .int .u64 0) (y_add (a := 0) (b := 0) rfl rfl (by decide)) rfl ?_
 refine s_y (v := .int .u64 0) (y_assign rfl) rfl ?_
 refine wpL_nil ?_
 refine thenS_n ?_
 refine wpS_seq ?_
 refine wpS_region ?_
 refine s_y (v := .int .u64 1) (y_move rfl) rfl ?_
 refine s_y (v := .int .u64 ((y : Nat) : Int)) (y_move rfl) rfl ?_
 refine s_y (v := .int .u64 ((y : Nat) : Int)) (y_mul (a := 1) (b := ((y : Nat) : Int)) rfl rfl (wU (by omega) (by omega) (by omega))) rfl ?_
 refine s_y (v := .int .u64 ((y : Nat) : Int)) (y_assign rfl) rfl ?_
 refine wpL_nil ?_
 refine thenS_n ?_
 refine wpS_ret ?_
 refine fin2 (M := []) (.inr rfl) (.nil) Try.results249 (rvT (v := .int .u64 0) rfl) (rvT (v := .int .u64 ((y : Nat) : Int)) rfl) ?_
 exact fun w' hs => ⟨rfl, hs⟩
theorem mulw_c (y : Nat) (w : World) (hy : y < 9) : Pure Try.prog 247 #[.int .u64 1, .int .u64 ((y : Nat) : Int)] w (.tuple #[.int .u64 0, .int .u64 ((y : Nat) : Int)]) := by
 refine calls_S (n := 30) (σ0 := (upd (upd fr0 0 (.int .u64 1)) 1 (.int .u64 ((y : Nat) : Int)))) (D := []) (A := []) Try.func247 rfl Try.ntmps247 rfl (a2_fr _ _) (SH.start w) ?_
 refine wpS_seq ?_
 refine wpS_region ?_
 refine s_y (v := .int .u64 0) (y_assign rfl) rfl ?_
 refine s_y (v := .int .u64 0) (y_assign rfl) rfl ?_
 refine wpL_nil ?_
 refine thenS_n ?_
 refine wpS_seq ?_
 refine wpS_cond_f rfl ?_
 refine wpS_skip ?_
 refine thenS_n ?_
 refine wpS_seq ?_
 refine wpS_region ?_
 refine s_y (v := .int .u64 1) (y_move rfl) rfl ?_
 refine s_y (v := .int .u64 ((y : Nat) : Int)) (y_move rfl) rfl ?_
 refine s_y (v := .tuple #[.int .u64 0, .int .u64 ((y : Nat) : Int)]) (y_call (args := #[.int .u64 1, .int .u64 ((y : Nat) : Int)]) Try.call249 (ev2 rfl rfl) (fun w hs => mul1_c y w (by omega))) rfl ?_
 refine s_y (v := .tuple #[.int .u64 0, .int .u64 ((y : Nat) : Int)]) (y_move rfl) rfl ?_
 refine s_y (v := .int .u64 0) (y_extract rfl rfl) rfl ?_
 refine s_y (v := .int .u64 ((y : Nat) : Int)) (y_extract rfl rfl) rfl ?_
 refine s_y (v := .int .u64 0) (y_assign rfl) rfl ?_
 refine s_y (v := .int .u64 ((y : Nat) : Int)) (y_assign rfl) rfl ?_
 refine wpL_nil ?_
 refine thenS_n ?_
 refine wpS_seq ?_
 refine wpS_region ?_
 refine s_y (v := .int .u64 0) (y_move rfl) rfl ?_
 refine s_y (v := .int .u64 ((y : Nat) : Int)) (y_move rfl) rfl ?_
 refine s_y (v := .int .u64 0) (y_assign rfl) rfl ?_
 refine s_y (v := .int .u64 ((y : Nat) : Int)) (y_assign rfl) rfl ?_
 refine wpL_nil ?_
 refine thenS_n ?_
 refine wpS_ret ?_
 refine fin2 (M := []) (.inr rfl) (.nil) Try.results247 (rvT (v := .int .u64 0) rfl) (rvT (v := .int .u64 ((y : Nat) : Int)) rfl) ?_
 exact fun w' hs => ⟨rfl, hs⟩
theorem rep_c (a : Option Addr) (c : Nat) (x : Rec) (S : Nat) (w : World) (hr : Rds w a ([x].flatMap recV)) (h1 : 1 ≤ S) (h8 : S ≤ 8) : MakesS Try.prog 245 #[.slice a 1 c, .int .i64 ((S : Nat) : Int)] w [] recV 4 23 (List.replicate S x) := by
 refine calls_S (n := 48) (σ0 := (upd (upd fr0 0 (.slice a 1 c)) 1 (.int .i64 ((S : Nat) : Int)))) (D := []) (A := []) Try.func245 rfl Try.ntmps245 rfl (a2_fr _ _) (SH.start w) ?_
 refine wpS_seq ?_
 refine wpS_region ?_
 refine s_y (v := .slice none 0 0) (y_assign rfl) rfl ?_
 refine wpL_nil ?_
 refine thenS_n ?_
 refine wpS_seq ?_
 refine wpS_seq ?_
 refine wpS_region ?_
 refine s_y (v := .int .i64 ((S : Nat) : Int)) (y_move rfl) rfl ?_
 refine s_y (v := .bool (decide ((S : Nat) < 0))) (y_lss (a := ((S : Nat) : Int)) (b := 0) (c := decide ((S : Nat) < 0)) rfl rfl (decide_eq_decide.2 (by omega))) rfl ?_
 refine wpL_nil ?_
 refine thenS_n ?_
 refine wpS_cond_F (t := decide ((S : Nat) < 0)) rfl (decide_eq_false (by omega)) ?_
 refine wpS_skip ?_
 refine thenS_n ?_
 refine wpS_seq ?_
 refine wpS_region ?_
 refine s_y (v := .slice a 1 c) (y_move rfl) rfl ?_
 refine s_y (v := .int .i64 1) (y_len (ty' := 0) (at_ := #[]) rfl Try.underlying69) rfl ?_
 refine s_y (v := .int .u64 1) (y_convI (a := 1) rfl Try.underlying3 Try.underlying46 (by decide)) rfl ?_
 refine s_y (v := .int .i64 ((S : Nat) : Int)) (y_move rfl) rfl ?_
 refine s_y (v := .int .u64 ((S : Nat) : Int)) (y_convI (a := ((S : Nat) : Int)) rfl Try.underlying3 Try.underlying46 (wU rfl (by omega) (by omega))) rfl ?_
 refine s_y (v := .tuple #[.int .u64 0, .int .u64 ((S : Nat) : Int)]) (y_call (args := #[.int .u64 1, .int .u64 ((S : Nat) : Int)]) Try.call247 (ev2 rfl rfl) (fun w hs => mulw_c S w (by omega))) rfl ?_
 refine s_y (v := .tuple #[.int .u64 0, .int .u64 ((S : Nat) : Int)]) (y_move rfl) rfl ?_
 refine s_y (v := .int .u64 0) (y_extract rfl rfl) rfl ?_
 refine s_y (v := .int .u64 ((S : Nat) : Int)) (y_extract rfl rfl) rfl ?_
 refine s_y (v := .int .u64 0) (y_assign rfl) rfl ?_
 refine s_y (v := .int .u64 ((S : Nat) : Int)) (y_assign rfl) rfl ?_
 refine wpL_nil ?_
 refine thenS_n ?_
 refine wpS_seq ?_
 refine wpS_seq ?_
 refine wpS_region ?_
 refine s_y (v := .int .u64 0) (y_move rfl) rfl ?_
 refine s_y (v := .bool false) (y_gtr (a := 0) (b := 0) (c := false) rfl rfl (by decide)) rfl ?_
 refine s_y (v := .bool false) (y_move rfl) rfl ?_
 refine s_gy (y_move rfl) rfl rfl rfl rfl rfl rfl ?_
 refine s_gy (y_gtr (a := ((S : Nat) : Int)) (b := 9223372036854775807) (c := decide ((9223372036854775807 : Nat) < S)) rfl rfl (decide_eq_decide.2 (by omega))) rfl rfl rfl rfl rfl rfl ?_
 refine s_y (v := .bool (decide ((9223372036854775807 : Nat) < S))) (y_pickF rfl rfl rfl) rfl ?_
 refine wpL_nil ?_
 refine thenS_n ?_
 refine wpS_cond_F (t := decide ((9223372036854775807 : Nat) < S)) rfl (decide_eq_false (by omega)) ?_
 refine wpS_skip ?_
 refine thenS_n ?_
 refine wpS_seq ?_
 refine wpS_region ?_
 refine s_y (v := .int .u64 ((S : Nat) : Int)) (y_move rfl) rfl ?_
 refine s_y (v := .int .i64 ((S : Nat) : Int)) (y_convI (a := ((S : Nat) : Int)) rfl Try.underlying46 Try.underlying3 (wI rfl (by omega) (by omega))) rfl ?_
 refine s_e rfl ?_
 refine e_make (enc := recV) (y0 := (Rec.mk false 0 0 0)) (m := S) (c := S) (bytes := 32) recV_len (by decide) Try.underlying69 (i := Try.t23) rfl rfl rfl rfl rfl rfl rfl (by omega) (by omega) (by omega) ?_
 intro b_1
 refine s_y (v := .slice (some ⟨b_1, 0, none⟩) S S) (y_assign rfl) rfl ?_
 refine wpL_nil ?_
 refine thenS_n ?_
 refine wpS_seq ?_
 refine wpS_region ?_
 refine s_y (v := .slice (some ⟨b_1, 0, none⟩) S S) (y_move rfl) rfl ?_
 refine s_y (v := .slice a 1 c) (y_move rfl) rfl ?_
 refine s_e rfl ?_
 refine e_copy (enc := recV) (xs := (List.replicate S (Rec.mk false 0 0 0))) (ns := ([x])) (zs := (List.replicate 1 x ++ List.replicate (S - 1) (Rec.mk false 0 0 0))) (j := 0) (q := 1) recV_len recV_one Try.underlying69 (i := Try.t23) rfl rfl (by decide) rfl rfl rfl .h (by rw [List.length_replicate]) (fun b h => by rw [h, Nat.zero_mul]) (oldR hr) (by omega) (by omega) (by omega) (rep_1 x (Rec.mk false 0 0 0) (by omega)) ?_
 refine s_y (v := .int .i64 ((1 : Nat) : Int)) (y_assign rfl) rfl ?_
 refine wpL_nil ?_
 refine thenS_n ?_
 refine wpS_seq ?_
 refine wpS_block ?_
 refine wpS_loop (fun mez ds σ L => ∃ j : Nat, mez = S - j ∧ (1 ≤ j) ∧ (j ≤ S) ∧ ds = [] ∧ σ 7 = .slice (some ⟨b_1, 0, none⟩) S S ∧ σ 8 = .int .i64 ((j : Nat) : Int) ∧ Ent L [osl (some ⟨b_1, 0, none⟩) S S 4 23 ((List.replicate j x ++ List.replicate (S - j) (Rec.mk false 0 0 0)).flatMap recV)]) (m0 := S - 1) ⟨1, rfl, by omega, by omega, rfl, rfl, rfl, .p .h .nil⟩ ?_
 rintro mez ds σ L ⟨j, hm_2, hf0_2, hf1_2, rfl, h7_2, h8_2, hE_2⟩
 refine wpS_ent hE_2 ?_; clear hE_2
 have hjl : (List.replicate j x ++ List.replicate (S - j) (Rec.mk false 0 0 0)).length = S := by simp only [List.length_append, List.length_replicate]; omega
 refine wpS_seq ?_
 refine wpS_seq ?_
 refine wpS_region ?_
 refine s_y (v := .int .i64 ((j : Nat) : Int)) (y_move h8_2) rfl ?_
 refine s_y (v := .slice (some ⟨b_1, 0, none⟩) S S) (y_move h7_2) rfl ?_
 refine s_y (v := .int .i64 ((S : Nat) : Int)) (y_len (ty' := 0) (at_ := #[]) rfl Try.underlying69) rfl ?_
 refine s_y (v := .bool (decide (j < S))) (y_lss (a := ((j : Nat) : Int)) (b := ((S : Nat) : Int)) (c := decide (j < S)) rfl rfl (decide_eq_decide.2 (by omega))) rfl ?_
 refine wpL_nil ?_
 refine thenS_n ?_
 refine wpS_cond (t := decide (j < S)) rfl (fun b3 => ?_) (fun b3 => ?_)
 ·
  have p3 := of_decide_eq_true b3
  refine wpS_skip ?_
  refine thenS_n ?_
  refine wpS_block ?_
  refine wpS_anyL [] [] (by kernel_rfl) ?_
  refine anyS_take (i := 0) rfl (by kernel_rfl) (by kernel_rfl) (by kernel_rfl) (by kernel_rfl) (Yq.of (v := .int .i64 ((j : Nat) : Int)) (y_move h8_2) rfl) (.nil) ?_
  refine anyS_take (i := 1) rfl (by kernel_rfl) (by kernel_rfl) (by kernel_rfl) (by kernel_rfl) (Yq.of (v := .slice (some ⟨b_1, 0, none⟩) S S) (y_move h7_2) rfl) (.nil) ?_
  refine anyS_take (i := 2) rfl (by kernel_rfl) (by kernel_rfl) (by kernel_rfl) (by kernel_rfl) (Yq.of (v := .int .i64 ((j : Nat) : Int)) (y_move h8_2) rfl) (.nil) ?_
  refine anyS_take (i := 3) rfl (by kernel_rfl) (by kernel_rfl) (by kernel_rfl) (by kernel_rfl) (Yq.of (v := .slice (subA (some ⟨b_1, 0, none⟩) S j 4) (S - j) (S - j)) (y_sliceL (l' := j) rfl rfl Try.underlying69 Try.sizeOf23 (by omega) (by omega) (by omega)) rfl) (.nil) ?_
  refine anyS_take (i := 4) rfl (by kernel_rfl) (by kernel_rfl) (by kernel_rfl) (by kernel_rfl) (Yq.of (v := .slice (some ⟨b_1, 0, none⟩) S S) (y_move h7_2) rfl) (.nil) ?_
  refine anyS_take (i := 5) rfl (by kernel_rfl) (by kernel_rfl) (by kernel_rfl) (by kernel_rfl) (Yq.of (v := .int .i64 ((j : Nat) : Int)) (y_move h8_2) rfl) (.nil) ?_
  refine anyS_take (i := 6) rfl (by kernel_rfl) (by kernel_rfl) (by kernel_rfl) (by kernel_rfl) (Yq.of (v := .slice (some ⟨b_1, 0, none⟩) j S) (y_sliceH (h' := j) rfl rfl Try.underlying69 Try.sizeOf23 (by omega) (by omega) (by omega)) rfl) (.nil) ?_
  refine anyS_all (rs := [7]) (by kernel_rfl) (by simp) ?_
  intro i hi; obtain rfl := List.mem_singleton.1 hi; clear hi
  refine opS_0 rfl rfl ?_
  refine e_copy (enc := recV) (xs := (List.replicate j x ++ List.replicate (S - j) (Rec.mk false 0 0 0))) (ns := (List.replicate j x)) (zs := (List.replicate (j + (min j (S - j))) x ++ List.replicate (S - (j + (min j (S - j)))) (Rec.mk false 0 0 0))) (j := j) (q := (min j (S - j))) recV_len recV_one Try.underlying69 (i := Try.t23) rfl rfl (by decide) rfl rfl (by rw [List.length_replicate]) .h (by simp only [List.length_append, List.length_replicate]; omega) (fun b h => sub_at h (by omega)) (fun w hs => by have h := (oslR .h w hs).take (j * 4); rw [fl_take recV_len, List.take_append_of_le_length (by rw [List.length_replicate]; exact Nat.le_refl _), List.take_of_length_le (by rw [List.length_replicate]; exact Nat.le_refl _)] at h; exact h) rfl (by omega) (by omega) (rep_q x (Rec.mk false 0 0 0) (by omega)) ?_
  refine ⟨.inr (.nil), ?_⟩
  refine anyS_take (i := 8) rfl (by kernel_rfl) (by kernel_rfl) (by kernel_rfl) (by kernel_rfl) (Yq.of (v := .int .i64 (((j + (min j (S - j))) : Nat) : Int)) (y_add (a := ((j : Nat) : Int)) (b := (((min j (S - j)) : Nat) : Int)) rfl rfl (wI (by omega) (by omega) (by omega))) rfl) (.nil) ?_
  refine anyS_take (i := 9) rfl (by kernel_rfl) (by kernel_rfl) (by kernel_rfl) (by kernel_rfl) (Yq.of (v := .int .i64 (((j + (min j (S - j))) : Nat) : Int)) (y_assign rfl) rfl) (.nil) ?_
  refine anyS_done (by kernel_rfl) ?_
  refine blockS_n ?_
  refine thenS_n ?_
  exact ⟨_, by omega, ⟨(j + min j (S - j)), rfl, by omega, by omega, rfl, h7_2, rfl, .p .h .nil⟩⟩
 ·
  have p3 := of_decide_eq_false b3
  refine wpS_exit ?_
  refine thenS_x ?_
  refine thenS_x ?_
  refine blockS_h ?_
  refine thenS_n ?_
  refine wpS_seq ?_
  refine wpS_region ?_
  refine s_y (v := .slice (some ⟨b_1, 0, none⟩) S S) (y_move h7_2) rfl ?_
  refine s_y (v := .slice (some ⟨b_1, 0, none⟩) S S) (y_assign rfl) rfl ?_
  refine wpL_nil ?_
  refine thenS_n ?_
  refine wpS_ret ?_
  refine fin1 (M := [osl (some ⟨b_1, 0, none⟩) S S 4 23 ((List.replicate j x ++ List.replicate (S - j) (Rec.mk false 0 0 0)).flatMap recV)]) (v := .slice (some ⟨b_1, 0, none⟩) S S) (.inr rfl) (.p .h .nil) Try.results245 rfl ?_
  exact fun w' hs => ⟨(some ⟨b_1, 0, none⟩, S), by rw [show (List.replicate S x) = (List.replicate j x ++ List.replicate (S - j) (Rec.mk false 0 0 0)) from (by rw [show S - j = 0 by omega, show j = S by omega]; simp)]; simp only [slV, show (List.replicate j x ++ List.replicate (S - j) (Rec.mk false 0 0 0)).length = S from by omega], by rw [show (List.replicate S x) = (List.replicate j x ++ List.replicate (S - j) (Rec.mk false 0 0 0)) from (by rw [show S - j = 0 by omega, show j = S by omega]; simp)]; simp only [slR, show (List.replicate j x ++ List.replicate (S - j) (Rec.mk false 0 0 0)).length = S from by omega]; exact hs, trivial⟩
theorem empty_c (R m S : Nat) (W : Int) (w : World) (h1 : 1 ≤ S) (h8 : S ≤ 8) : MakesS Try.prog 238 #[.agg #[.int .i64 ((R : Nat) : Int), .int .i64 ((m : Nat) : Int), .int .i64 ((S : Nat) : Int), .int .i64 W]] w [] recV 4 23 (dds S) := by
 refine calls_S (n := 8) (σ0 := (upd fr0 0 (.agg #[.int .i64 ((R : Nat) : Int), .int .i64 ((m : Nat) : Int), .int .i64 ((S : Nat) : Int), .int .i64 W]))) (D := []) (A := []) Try.func238 rfl Try.ntmps238 rfl (a1_fr _) (SH.start w) ?_
 refine wpS_seq ?_
 refine wpS_region ?_
 refine s_e rfl ?_
 refine e_box (v := .agg #[.int .i64 ((R : Nat) : Int), .int .i64 ((m : Nat) : Int), .int .i64 ((S : Nat) : Int), .int .i64 W]) (l := [.int .i64 ((R : Nat) : Int), .int .i64 ((m : Nat) : Int), .int .i64 ((S : Nat) : Int), .int .i64 W]) rfl rfl ?_
 intro b_1
 refine s_y (v := .slice none 0 0) (y_assign rfl) rfl ?_
 refine wpL_nil ?_
 refine thenS_n ?_
 refine wpS_seq ?_
 refine wpS_anyL [cel b_1 53 [.int .i64 ((R : Nat) : Int), .int .i64 ((m : Nat) : Int), .int .i64 ((S : Nat) : Int), .int .i64 W]] [] (by kernel_rfl) ?_
 refine anyS_take (i := 0) rfl (by kernel_rfl) (by kernel_rfl) (by kernel_rfl) (by kernel_rfl) (Yq.of (v := .agg #[.bool deadR.dead, .int .i64 deadR.key.toInt, .int .i64 deadR.value.toInt, .int .i64 deadR.seq.toInt]) (y_call (args := #[]) Try.call49 ev0 (fun w hs => dead_c w)) rfl) (.p .h .nil) ?_
 refine anyS_take (i := 2) rfl (by kernel_rfl) (by kernel_rfl) (by kernel_rfl) (by kernel_rfl) (Yq.of (v := .pointer (some ⟨b_1, 2, none⟩)) (y_fieldAddr (o' := 2) rfl Try.underlying53 rfl Try.sizeOf3 (by decide) rfl) rfl) (.p .h .nil) ?_
 refine anyS_take (i := 3) rfl (by kernel_rfl) (by kernel_rfl) (by kernel_rfl) (by kernel_rfl) (Yq.of (v := .int .i64 ((S : Nat) : Int)) (y_load1 rfl Try.isAgg3 (own1 .h rfl)) rfl) (.p .h .nil) ?_
 refine anyS_all (rs := [1]) (by kernel_rfl) (by simp) ?_
 intro i hi; obtain rfl := List.mem_singleton.1 hi; clear hi
 refine opS_0 rfl rfl ?_
 refine e_bsliceL (e := 23) (m := [(0, .agg #[.bool deadR.dead, .int .i64 deadR.key.toInt, .int .i64 deadR.value.toInt, .int .i64 deadR.seq.toInt])]) (l := [.bool deadR.dead, .int .i64 deadR.key.toInt, .int .i64 deadR.value.toInt, .int .i64 deadR.seq.toInt]) (evc rfl evn) (fun w => by kernel_rfl) ?_
 intro b_2
 refine ⟨.inr (.p (.t .h) .nil), ?_⟩
 refine anyS_all (rs := [4]) (by kernel_rfl) (by simp) ?_
 intro i hi; obtain rfl := List.mem_singleton.1 hi; clear hi
 refine opS_0 rfl rfl ?_
 refine e_call (f := 245) (args := #[.slice (some ⟨b_2, 0, none⟩) 1 1, .int .i64 ((S : Nat) : Int)]) (X := Option Addr × Nat) (A := []) (M := [cel b_2 23 [.bool deadR.dead, .int .i64 deadR.key.toInt, .int .i64 deadR.value.toInt, .int .i64 deadR.seq.toInt], cel b_1 53 [.int .i64 ((R : Nat) : Int), .int .i64 ((m : Nat) : Int), .int .i64 ((S : Nat) : Int), .int .i64 W]]) (V := slV (List.replicate S deadR)) (A' := fun x => [slR recV 4 23 (List.replicate S deadR) x]) (C := fun x => (List.replicate S deadR).length ≤ x.2) Try.call245 (ev2 rfl rfl) (.p .h (.p .h .nil)) (fun w hs => (rep_c (some ⟨b_2, 0, none⟩) 1 deadR S w (celR .h w hs) (by omega) (by omega)).cap) ?_
 rintro ⟨a_3, c_4⟩ hc5; replace hc5 : (List.replicate S deadR).length ≤ c_4 := hc5
 refine ⟨.inr (.p (.t (.t .h)) .nil), ?_⟩
 refine anyS_take (i := 5) rfl (by kernel_rfl) (by kernel_rfl) (by kernel_rfl) (by kernel_rfl) (Yq.of (v := .slice a_3 ((List.replicate S deadR).length) c_4) (y_assign rfl) rfl) (.p (.t (.t .h)) .nil) ?_
 refine anyS_done (by kernel_rfl) ?_
 refine thenS_n ?_
 refine wpS_ret ?_
 refine fin1 (M := [osl a_3 c_4 ((List.replicate S deadR).length) 4 23 ((List.replicate S deadR).flatMap recV)]) (v := .slice a_3 ((List.replicate S deadR).length) c_4) (.inr rfl) (.p .h .nil) Try.results238 rfl ?_
 exact fun w' hs => ⟨(a_3, c_4), by rw [show (dds S) = (List.replicate S deadR) from rfl], by rw [show (dds S) = (List.replicate S deadR) from rfl]; exact hs, trivial⟩
theorem input_c (R m S : Nat) (W : Int) (ga : Option Addr) (gn gc : Nat) (li : List Pr) (ai : Nat) (w : World) (hn : li.length = gn) (hr : Rds w ga (li.flatMap prV)) (hb : gn ≤ 1000) (h8 : S ≤ 8) (ha : ai ≤ 100) : MakesS Try.prog 237 #[.agg #[.int .i64 ((R : Nat) : Int), .int .i64 ((m : Nat) : Int), .int .i64 ((S : Nat) : Int), .int .i64 W], .slice ga gn gc, .int .i64 ((ai : Nat) : Int)] w [] recV 4 23 (inp S li ai) := by
 refine calls_S (n := 45) (σ0 := (upd (upd (upd fr0 0 (.agg #[.int .i64 ((R : Nat) : Int), .int .i64 ((m : Nat) : Int), .int .i64 ((S : Nat) : Int), .int .i64 W])) 1 (.slice ga gn gc)) 2 (.int .i64 ((ai : Nat) : Int)))) (D := []) (A := []) Try.func237 rfl Try.ntmps237 rfl (a3_fr _ _ _) (SH.start w) ?_
 have hm1 : ai * S ≤ 100 * 8 := Nat.mul_le_mul ha h8
 have hm2 : (ai + 1) * S = ai * S + S := Nat.succ_mul ai S
 refine wpS_seq ?_
 refine wpS_region ?_
 refine s_e rfl ?_
 refine e_box (v := .agg #[.int .i64 ((R : Nat) : Int), .int .i64 ((m : Nat) : Int), .int .i64 ((S : Nat) : Int), .int .i64 W]) (l := [.int .i64 ((R : Nat) : Int), .int .i64 ((m : Nat) : Int), .int .i64 ((S : Nat) : Int), .int .i64 W]) rfl rfl ?_
 intro b_1
 refine s_y (v := .slice none 0 0) (y_assign rfl) rfl ?_
 refine wpL_nil ?_
 refine thenS_n ?_
 refine wpS_seq ?_
 refine wpS_region ?_
 refine s_y (v := .slice none 0 0) (y_assign rfl) rfl ?_
 refine wpL_nil ?_
 refine thenS_n ?_
 refine wpS_seq ?_
 refine wpS_seq ?_
 refine wpS_region ?_
 refine s_y (v := .int .i64 ((ai : Nat) : Int)) (y_move rfl) rfl ?_
 refine s_y (v := .pointer (some ⟨b_1, 2, none⟩)) (y_fieldAddr (o' := 2) rfl Try.underlying53 rfl Try.sizeOf3 (by decide) rfl) rfl ?_
 refine s_y (v := .int .i64 ((S : Nat) : Int)) (y_load1 rfl Try.isAgg3 (own1 .h rfl)) rfl ?_
 refine s_y (v := .int .i64 (((ai * S) : Nat) : Int)) (y_mul (a := ((ai : Nat) : Int)) (b := ((S : Nat) : Int)) rfl rfl (wI (Int.natCast_mul _ _).symm (by omega) (by omega))) rfl ?_
 refine s_y (v := .int .i64 (((ai * S) : Nat) : Int)) (y_assign rfl) rfl ?_
 refine wpL_nil ?_
 refine thenS_n ?_
 refine wpS_block ?_
 refine wpS_nil0 4 23 ?_
 refine wpS_loop (fun mez ds σ L => ∃ i : Nat, ∃ xs : List Rec, ∃ xa : Option Addr, ∃ xc : Nat, mez = S - i ∧ (i ≤ S) ∧ (xs.length = i) ∧ (xs = inT li (ai * S) i) ∧ ds = [] ∧ σ 1 = .slice ga gn gc ∧ σ 2 = .int .i64 ((ai : Nat) : Int) ∧ σ 3 = .pointer (some ⟨b_1, 0, none⟩) ∧ σ 7 = .slice xa xs.length xc ∧ σ 8 = .int .i64 (((ai * S + i) : Nat) : Int) ∧ Ent L [osl xa xc xs.length 4 23 (xs.flatMap recV), cel b_1 53 [.int .i64 ((R : Nat) : Int), .int .i64 ((m : Nat) : Int), .int .i64 ((S : Nat) : Int), .int .i64 W]]) (m0 := S - 0) ⟨0, [], none, 0, rfl, by omega, rfl, rfl, rfl, rfl, rfl, rfl, rfl, rfl, .p .h (.p .h .nil)⟩ ?_
 rintro mez ds σ L ⟨i, xs, xa, xc, hm_2, hf0_2, hf1_2, hf2_2, rfl, h1_2, h2_2, h3_2, h7_2, h8_2, hE_2⟩
 refine wpS_ent hE_2 ?_; clear hE_2
 refine wpS_seq ?_
 refine wpS_seq ?_
 refine wpS_region ?_
 refine s_y (v := .int .i64 (((ai * S + i) : Nat) : Int)) (y_move h8_2) rfl ?_
 refine s_y (v := .int .i64 ((ai : Nat) : Int)) (y_move h2_2) rfl ?_
 refine s_y (v := .int .i64 (((ai + 1) : Nat) : Int)) (y_add (a := ((ai : Nat) : Int)) (b := 1) rfl rfl (wI (by omega) (by omega) (by omega))) rfl ?_
 refine s_y (v := .pointer (some ⟨b_1, 2, none⟩)) (y_fieldAddr (o' := 2) h3_2 Try.underlying53 rfl Try.sizeOf3 (by decide) rfl) rfl ?_
 refine s_y (v := .int .i64 ((S : Nat) : Int)) (y_load1 rfl Try.isAgg3 (own1 (.t .h) rfl)) rfl ?_
 refine s_y (v := .int .i64 ((((ai + 1) * S) : Nat) : Int)) (y_mul (a := (((ai + 1) : Nat) : Int)) (b := ((S : Nat) : Int)) rfl rfl (wI (Int.natCast_mul _ _).symm (by omega) (by omega))) rfl ?_
 refine s_y (v := .bool (decide ((ai * S + i) < ((ai + 1) * S)))) (y_lss (a := (((ai * S + i) : Nat) : Int)) (b := ((((ai + 1) * S) : Nat) : Int)) (c := decide ((ai * S + i) < ((ai + 1) * S))) rfl rfl (decide_eq_decide.2 (by omega))) rfl ?_
 refine wpL_nil ?_
 refine thenS_n ?_
 refine wpS_cond (t := decide ((ai * S + i) < ((ai + 1) * S))) rfl (fun b3 => ?_) (fun b3 => ?_)
 ·
  have p3 := of_decide_eq_true b3
  refine wpS_skip ?_
  refine thenS_n ?_
  refine wpS_seq ?_
  refine wpS_block ?_
  refine wpS_seq ?_
  refine wpS_region ?_
  refine s_y (v := .agg #[.bool deadR.dead, .int .i64 deadR.key.toInt, .int .i64 deadR.value.toInt, .int .i64 deadR.seq.toInt]) (y_call (args := #[]) Try.call49 ev0 (fun w hs => dead_c w)) rfl ?_
  refine s_e rfl ?_
  refine e_alloc (l := [.bool false, .int .i64 0, .int .i64 0, .int .i64 0]) Try.zeroValue23 rfl ?_
  intro b_4
  refine s_e0 ?_
  refine e_store (vs := [.bool deadR.dead, .int .i64 deadR.key.toInt, .int .i64 deadR.value.toInt, .int .i64 deadR.seq.toInt]) (l' := [.bool deadR.dead, .int .i64 deadR.key.toInt, .int .i64 deadR.value.toInt, .int .i64 deadR.seq.toInt]) rfl rfl rfl rfl Try.sizeOf23 .h (Nat.le_of_ble_eq_true rfl) rfl ?_
  refine wpL_nil ?_
  refine thenS_n ?_
  refine wpS_seq ?_
  refine wpS_seq ?_
  refine wpS_region ?_
  refine s_y (v := .int .i64 (((ai * S + i) : Nat) : Int)) (y_move h8_2) rfl ?_
  refine s_y (v := .slice ga gn gc) (y_move h1_2) rfl ?_
  refine s_y (v := .int .i64 ((gn : Nat) : Int)) (y_len (ty' := 0) (at_ := #[]) rfl Try.underlying153) rfl ?_
  refine s_y (v := .bool (decide ((ai * S + i) < gn))) (y_lss (a := (((ai * S + i) : Nat) : Int)) (b := ((gn : Nat) : Int)) (c := decide ((ai * S + i) < gn)) rfl rfl (decide_eq_decide.2 (by omega))) rfl ?_
  refine wpL_nil ?_
  refine thenS_n ?_
  refine wpS_cond (t := decide ((ai * S + i) < gn)) rfl (fun b5 => ?_) (fun b5 => ?_)
  ·
   have p5 := of_decide_eq_true b5
   refine wpS_anyL [] [] (by kernel_rfl) ?_
   refine anyS_take (i := 0) rfl (by kernel_rfl) (by kernel_rfl) (by kernel_rfl) (by kernel_rfl) (Yq.of (v := .slice ga gn gc) (y_move h1_2) rfl) (.nil) ?_
   refine anyS_take (i := 1) rfl (by kernel_rfl) (by kernel_rfl) (by kernel_rfl) (by kernel_rfl) (Yq.of (v := .int .i64 (((ai * S + i) : Nat) : Int)) (y_move h8_2) rfl) (.nil) ?_
   refine anyS_take (i := 2) rfl (by kernel_rfl) (by kernel_rfl) (by kernel_rfl) (by kernel_rfl) (Yq.of (v := .pointer (some ⟨aB ga, aO ga + (ai * S + i) * 2, none⟩)) (y_idx (o := (ai * S + i) * 2) rfl rfl Try.underlying153 Try.sizeOf89 (oldR hr) ((fl_len prV_len _).trans (by first | omega | (simp only [List.length_set, List.length_take, List.length_drop]; done) | (simp only [List.length_set, List.length_take, List.length_drop]; omega))) (by decide) (by omega) (by omega) (by omega)) rfl) (.nil) ?_
   refine anyS_take (i := 3) rfl (by kernel_rfl) (by kernel_rfl) (by kernel_rfl) (by kernel_rfl) (Yq.of (v := .pointer (some ⟨aB ga, aO ga + (ai * S + i) * 2, none⟩)) (y_fieldAddr (o' := aO ga + (ai * S + i) * 2) rfl Try.underlying89 rfl Try.sizeOf2 (by decide) rfl) rfl) (.nil) ?_
   refine anyS_take (i := 4) rfl (by kernel_rfl) (by kernel_rfl) (by kernel_rfl) (by kernel_rfl) (Yq.of (v := .int .i64 (((li.getD (ai * S + i) default).1).toInt)) (y_load1 rfl Try.isAgg2 (rd1 (k := (ai * S + i) * 2) (oldR hr) (fl_get0 prV_len li (ai * S + i) (by first | omega | (simp only [List.length_set, List.length_take, List.length_drop]; done) | (simp only [List.length_set, List.length_take, List.length_drop]; omega)) rfl))) rfl) (.nil) ?_
   refine anyS_take (i := 5) rfl (by kernel_rfl) (by kernel_rfl) (by kernel_rfl) (by kernel_rfl) (Yq.of (v := .slice ga gn gc) (y_move h1_2) rfl) (.nil) ?_
   refine anyS_take (i := 6) rfl (by kernel_rfl) (by kernel_rfl) (by kernel_rfl) (by kernel_rfl) (Yq.of (v := .int .i64 (((ai * S + i) : Nat) : Int)) (y_move h8_2) rfl) (.nil) ?_
   refine anyS_take (i := 7) rfl (by kernel_rfl) (by kernel_rfl) (by kernel_rfl) (by kernel_rfl) (Yq.of (v := .pointer (some ⟨aB ga, aO ga + (ai * S + i) * 2, none⟩)) (y_idx (o := (ai * S + i) * 2) rfl rfl Try.underlying153 Try.sizeOf89 (oldR hr) ((fl_len prV_len _).trans (by first | omega | (simp only [List.length_set, List.length_take, List.length_drop]; done) | (simp only [List.length_set, List.length_take, List.length_drop]; omega))) (by decide) (by omega) (by omega) (by omega)) rfl) (.nil) ?_
   refine anyS_take (i := 8) rfl (by kernel_rfl) (by kernel_rfl) (by kernel_rfl) (by kernel_rfl) (Yq.of (v := .pointer (some ⟨aB ga, aO ga + (ai * S + i) * 2 + 1, none⟩)) (y_fieldAddr (o' := aO ga + (ai * S + i) * 2 + 1) rfl Try.underlying89 rfl Try.sizeOf2 (by decide) rfl) rfl) (.nil) ?_
   refine anyS_take (i := 9) rfl (by kernel_rfl) (by kernel_rfl) (by kernel_rfl) (by kernel_rfl) (Yq.of (v := .int .i64 (((li.getD (ai * S + i) default).2).toInt)) (y_load1 rfl Try.isAgg2 (rd1 (k := (ai * S + i) * 2 + 1) (oldR hr) (fl_get1 (f := 1) prV_len li (ai * S + i) (by first | omega | (simp only [List.length_set, List.length_take, List.length_drop]; done) | (simp only [List.length_set, List.length_take, List.length_drop]; omega)) rfl))) rfl) (.nil) ?_
   refine anyS_take (i := 10) rfl (by kernel_rfl) (by kernel_rfl) (by kernel_rfl) (by kernel_rfl) (Yq.of (v := .int .i64 (((ai * S + i) : Nat) : Int)) (y_move h8_2) rfl) (.nil) ?_
   refine anyS_take (i := 11) rfl (by kernel_rfl) (by kernel_rfl) (by kernel_rfl) (by kernel_rfl) (Yq.of (v := .agg #[.bool false, .int .i64 (((li.getD (ai * S + i) default).1).toInt), .int .i64 (((li.getD (ai * S + i) default).2).toInt), .int .i64 ((Int64.ofNat (ai * S + i)).toInt)]) (y_buildL (m := [(1, .int .i64 (((li.getD (ai * S + i) default).1).toInt)), (2, .int .i64 (((li.getD (ai * S + i) default).2).toInt)), (3, .int .i64 ((Int64.ofNat (ai * S + i)).toInt))]) (vs := #[.bool false, .int .i64 (((li.getD (ai * S + i) default).1).toInt), .int .i64 (((li.getD (ai * S + i) default).2).toInt), .int .i64 ((Int64.ofNat (ai * S + i)).toInt)]) (evc rfl (evc rfl (evc (congrArg (Value.int .i64) (onat (n := ai * S + i) (by omega))) evn))) (fun w => by kernel_rfl)) rfl) (.nil) ?_
   refine anyS_all (rs := [12]) (by kernel_rfl) (by simp) ?_
   intro i hi; obtain rfl := List.mem_singleton.1 hi; clear hi
   refine opS_0 rfl rfl ?_
   refine e_store (vs := [.bool false, .int .i64 (((li.getD (ai * S + i) default).1).toInt), .int .i64 (((li.getD (ai * S + i) default).2).toInt), .int .i64 ((Int64.ofNat (ai * S + i)).toInt)]) (l' := [.bool false, .int .i64 (((li.getD (ai * S + i) default).1).toInt), .int .i64 (((li.getD (ai * S + i) default).2).toInt), .int .i64 ((Int64.ofNat (ai * S + i)).toInt)]) rfl rfl rfl rfl Try.sizeOf23 .h (Nat.le_of_ble_eq_true rfl) rfl ?_
   refine ⟨.inr (.nil), ?_⟩
   refine anyS_done (by kernel_rfl) ?_
   refine thenS_n ?_
   refine wpS_region ?_
   refine s_y (v := .slice xa xs.length xc) (y_move h7_2) rfl ?_
   refine s_y (v := .agg #[.bool false, .int .i64 (((li.getD (ai * S + i) default).1).toInt), .int .i64 (((li.getD (ai * S + i) default).2).toInt), .int .i64 ((Int64.ofNat (ai * S + i)).toInt)]) (y_loadN rfl Try.isAgg23 Try.sizeOf23 (ownN .h rfl)) rfl ?_
   refine s_e rfl ?_
   refine e_bsliceL (e := 23) (m := [(0, .agg #[.bool false, .int .i64 (((li.getD (ai * S + i) default).1).toInt), .int .i64 (((li.getD (ai * S + i) default).2).toInt), .int .i64 ((Int64.ofNat (ai * S + i)).toInt)])]) (l := [.bool false, .int .i64 (((li.getD (ai * S + i) default).1).toInt), .int .i64 (((li.getD (ai * S + i) default).2).toInt), .int .i64 ((Int64.ofNat (ai * S + i)).toInt)]) (evc rfl evn) (fun w => by kernel_rfl) ?_
   intro b_6
   refine s_e rfl ?_
   refine e_appendL (enc := recV) (xs := (xs : List Rec)) (ns := ([(Rec.mk false ((li.getD (ai * S + i) default).1) ((li.getD (ai * S + i) default).2) (Int64.ofNat (ai * S + i)))] : List Rec)) (zs := (xs ++ [(Rec.mk false ((li.getD (ai * S + i) default).1) ((li.getD (ai * S + i) default).2) (Int64.ofNat (ai * S + i)))])) (bytes := 32) recV_len recV_one Try.underlying69 (i := Try.t23) rfl rfl rfl rfl rfl (by decide) rfl rfl (by first | rfl | omega) (by first | rfl | omega) (.t (.t .h)) (fun w hs => celR .h w hs) (by first | rfl | simp) (by (try simp only [List.length_append, List.length_cons, List.length_nil] at *); omega) (by (try simp only [List.length_append, List.length_cons, List.length_nil] at *); omega) ?_
   intro a_7 c_8
   refine s_y (v := .slice a_7 ((xs ++ [(Rec.mk false ((li.getD (ai * S + i) default).1) ((li.getD (ai * S + i) default).2) (Int64.ofNat (ai * S + i)))]).length) c_8) (y_assign rfl) rfl ?_
   refine wpL_nil ?_
   refine blockS_n ?_
   refine thenS_n ?_
   refine wpS_region ?_
   refine s_y (v := .int .i64 (((ai * S + i) : Nat) : Int)) (y_move h8_2) rfl ?_
   refine s_y (v := .int .i64 ((((ai * S + i) + 1) : Nat) : Int)) (y_add (a := (((ai * S + i) : Nat) : Int)) (b := 1) rfl rfl (wI (by omega) (by omega) (by omega))) rfl ?_
   refine s_y (v := .int .i64 ((((ai * S + i) + 1) : Nat) : Int)) (y_assign rfl) rfl ?_
   refine wpL_nil ?_
   refine thenS_n ?_
   exact ⟨_, by omega, ⟨(i + 1), (xs ++ [(Rec.mk false ((li.getD (ai * S + i) default).1) ((li.getD (ai * S + i) default).2) (Int64.ofNat (ai * S + i)))]), a_7, c_8, rfl, by omega, (by rw [List.length_append, List.length_singleton]; omega), (by first | exact in_y (by assumption) (by omega) | exact in_n (by assumption) (by omega)), rfl, h1_2, h2_2, h3_2, rfl, rfl, .p .h (.p (.t (.t .h)) .nil)⟩⟩
  ·
   have p5 := of_decide_eq_false b5
   refine wpS_skip ?_
   refine thenS_n ?_
   refine wpS_region ?_
   refine s_y (v := .slice xa xs.length xc) (y_move h7_2) rfl ?_
   refine s_y (v := .agg #[.bool deadR.dead, .int .i64 deadR.key.toInt, .int .i64 deadR.value.toInt, .int .i64 deadR.seq.toInt]) (y_loadN rfl Try.isAgg23 Try.sizeOf23 (ownN .h rfl)) rfl ?_
   refine s_e rfl ?_
   refine e_bsliceL (e := 23) (m := [(0, .agg #[.bool deadR.dead, .int .i64 deadR.key.toInt, .int .i64 deadR.value.toInt, .int .i64 deadR.seq.toInt])]) (l := [.bool deadR.dead, .int .i64 deadR.key.toInt, .int .i64 deadR.value.toInt, .int .i64 deadR.seq.toInt]) (evc rfl evn) (fun w => by kernel_rfl) ?_
   intro b_9
   refine s_e rfl ?_
   refine e_appendL (enc := recV) (xs := (xs : List Rec)) (ns := ([deadR] : List Rec)) (zs := (xs ++ [deadR])) (bytes := 32) recV_len recV_one Try.underlying69 (i := Try.t23) rfl rfl rfl rfl rfl (by decide) rfl rfl (by first | rfl | omega) (by first | rfl | omega) (.t (.t .h)) (fun w hs => celR .h w hs) (by first | rfl | simp) (by (try simp only [List.length_append, List.length_cons, List.length_nil] at *); omega) (by (try simp only [List.length_append, List.length_cons, List.length_nil] at *); omega) ?_
   intro a_10 c_11
   refine s_y (v := .slice a_10 ((xs ++ [deadR]).length) c_11) (y_assign rfl) rfl ?_
   refine wpL_nil ?_
   refine blockS_n ?_
   refine thenS_n ?_
   refine wpS_region ?_
   refine s_y (v := .int .i64 (((ai * S + i) : Nat) : Int)) (y_move h8_2) rfl ?_
   refine s_y (v := .int .i64 ((((ai * S + i) + 1) : Nat) : Int)) (y_add (a := (((ai * S + i) : Nat) : Int)) (b := 1) rfl rfl (wI (by omega) (by omega) (by omega))) rfl ?_
   refine s_y (v := .int .i64 ((((ai * S + i) + 1) : Nat) : Int)) (y_assign rfl) rfl ?_
   refine wpL_nil ?_
   refine thenS_n ?_
   exact ⟨_, by omega, ⟨(i + 1), (xs ++ [deadR]), a_10, c_11, rfl, by omega, (by rw [List.length_append, List.length_singleton]; omega), (by first | exact in_y (by assumption) (by omega) | exact in_n (by assumption) (by omega)), rfl, h1_2, h2_2, h3_2, rfl, rfl, .p .h (.p (.t (.t .h)) .nil)⟩⟩
 ·
  have p3 := of_decide_eq_false b3
  refine wpS_exit ?_
  refine thenS_x ?_
  refine thenS_x ?_
  refine blockS_h ?_
  refine thenS_n ?_
  refine wpS_seq ?_
  refine wpS_region ?_
  refine s_y (v := .slice xa xs.length xc) (y_move h7_2) rfl ?_
  refine s_y (v := .slice xa xs.length xc) (y_assign rfl) rfl ?_
  refine wpL_nil ?_
  refine thenS_n ?_
  refine wpS_ret ?_
  refine fin1 (M := [osl xa xc xs.length 4 23 (xs.flatMap recV)]) (v := .slice xa xs.length xc) (.inr rfl) (.p .h .nil) Try.results237 rfl ?_
  exact fun w' hs => ⟨(xa, xc), by rw [show (inp S li ai) = xs from (by have h := (by assumption : xs = inT li (ai * S) i); rw [show i = S by omega] at h; exact h.symm)], by rw [show (inp S li ai) = xs from (by have h := (by assumption : xs = inT li (ai * S) i); rw [show i = S by omega] at h; exact h.symm)]; exact hs, trivial⟩
theorem turned_c (a b : Option Addr) (z ca cb : Nat) (la lb : List Rec) (sq u : Bool) (w : World) (hna : la.length = z) (hnb : lb.length = z) (hra : Rds w a (la.flatMap recV)) (hrb : Rds w b (lb.flatMap recV)) (hbz : z ≤ 1000) : Makes Try.prog 239 #[.slice a z ca, .slice b z cb, .bool sq, .bool u] w [] (fun x : Option Addr × Nat => .tuple #[.slice (tA u x.1 x.2 z) z (tC u x.2 z), .slice (tA (!u) x.1 x.2 z) z (tC (!u) x.2 z)]) (fun x => [slR recV 4 23 (mgd sq la lb) x]) (fun x => (mgd sq la lb).length ≤ x.2) := by
 refine calls_S (n := 24) (σ0 := (upd (upd (upd (upd fr0 0 (.slice a z ca)) 1 (.slice b z cb)) 2 (.bool sq)) 3 (.bool u))) (D := []) (A := []) Try.func239 rfl Try.ntmps239 rfl (a4_fr _ _ _ _) (SH.start w) ?_
 refine wpS_seq ?_
 refine wpS_region ?_
 refine s_y (v := .slice none 0 0) (y_assign rfl) rfl ?_
 refine s_y (v := .slice none 0 0) (y_assign rfl) rfl ?_
 refine wpL_nil ?_
 refine thenS_n ?_
 refine wpS_seq ?_
 refine wpS_region ?_
 refine s_y (v := .slice a z ca) (y_move rfl) rfl ?_
 refine s_y (v := .slice b z cb) (y_move rfl) rfl ?_
 refine s_y (v := .bool sq) (y_move rfl) rfl ?_
 refine s_e rfl ?_
 refine e_call (f := 73) (args := #[.slice a z ca, .slice b z cb, .bool sq]) (X := Option Addr × Nat) (A := []) (M := []) (V := fun x : Option Addr × Nat => .tuple #[.slice x.1 z z, .slice (subA x.1 x.2 z 4) ((mgd sq la lb).length - z) (x.2 - z)]) (A' := fun x => [slR recV 4 23 (mgd sq la lb) x]) (C := fun x => (mgd sq la lb).length ≤ x.2) Try.call73 (ev3 rfl rfl rfl) (.nil) (fun w hs => split_c a b z ca z cb la lb sq w hna hnb ((oldR hra) w hs) ((oldR hrb) w hs) (by omega) (by omega)) ?_
 rintro ⟨a_1, c_2⟩ hc3; replace hc3 : (mgd sq la lb).length ≤ c_2 := hc3
 have hlhc3 : (mgd sq la lb).length = la.length + lb.length := mgd_len _ _ _
 try simp only [List.length_cons, List.length_nil] at hlhc3
 refine s_y (v := .tuple #[.slice a_1 z z, .slice (subA a_1 c_2 z 4) ((mgd sq la lb).length - z) (c_2 - z)]) (y_move rfl) rfl ?_
 refine s_y (v := .slice a_1 z z) (y_extract rfl rfl) rfl ?_
 refine s_y (v := .slice (subA a_1 c_2 z 4) ((mgd sq la lb).length - z) (c_2 - z)) (y_extract rfl rfl) rfl ?_
 refine s_y (v := .slice a_1 z z) (y_assign rfl) rfl ?_
 refine s_y (v := .slice (subA a_1 c_2 z 4) ((mgd sq la lb).length - z) (c_2 - z)) (y_assign rfl) rfl ?_
 refine wpL_nil ?_
 refine thenS_n ?_
 refine wpS_seq ?_
 refine wpS_seq ?_
 refine wpS_region ?_
 refine s_y (v := .bool u) (y_move rfl) rfl ?_
 refine wpL_nil ?_
 refine thenS_n ?_
 refine wpS_cond (t := u) rfl (fun b5 => ?_) (fun b5 => ?_)
 ·
  refine wpS_seq ?_
  refine wpS_region ?_
  refine s_y (v := .slice a_1 z z) (y_move rfl) rfl ?_
  refine s_y (v := .slice (subA a_1 c_2 z 4) ((mgd sq la lb).length - z) (c_2 - z)) (y_move rfl) rfl ?_
  refine s_y (v := .slice a_1 z z) (y_assign rfl) rfl ?_
  refine s_y (v := .slice (subA a_1 c_2 z 4) ((mgd sq la lb).length - z) (c_2 - z)) (y_assign rfl) rfl ?_
  refine wpL_nil ?_
  refine thenS_n ?_
  refine wpS_ret ?_
  refine thenS_r ?_
  refine fin2 (M := [osl a_1 c_2 ((mgd sq la lb).length) 4 23 ((mgd sq la lb).flatMap recV)]) (.inr rfl) (.p .h .nil) Try.results239 (rvT (v := .slice a_1 z z) rfl) (rvT (v := .slice (subA a_1 c_2 z 4) ((mgd sq la lb).length - z) (c_2 - z)) rfl) ?_
  exact fun w' hs => ⟨(a_1, c_2), by subst b5; simp [tA, tC]; omega, hs, by omega⟩
 ·
  refine wpS_skip ?_
  refine thenS_n ?_
  refine wpS_seq ?_
  refine wpS_region ?_
  refine s_y (v := .slice (subA a_1 c_2 z 4) ((mgd sq la lb).length - z) (c_2 - z)) (y_move rfl) rfl ?_
  refine s_y (v := .slice a_1 z z) (y_move rfl) rfl ?_
  refine s_y (v := .slice (subA a_1 c_2 z 4) ((mgd sq la lb).length - z) (c_2 - z)) (y_assign rfl) rfl ?_
  refine s_y (v := .slice a_1 z z) (y_assign rfl) rfl ?_
  refine wpL_nil ?_
  refine thenS_n ?_
  refine wpS_ret ?_
  refine fin2 (M := [osl a_1 c_2 ((mgd sq la lb).length) 4 23 ((mgd sq la lb).flatMap recV)]) (.inr rfl) (.p .h .nil) Try.results239 (rvT (v := .slice (subA a_1 c_2 z 4) ((mgd sq la lb).length - z) (c_2 - z)) rfl) (rvT (v := .slice a_1 z z) rfl) ?_
  exact fun w' hs => ⟨(a_1, c_2), by subst b5; simp [tA, tC]; omega, hs, by omega⟩
theorem folded_c (kz : Int) (a1 a2 a3 : Option Addr) (n1 c1 n2 c2 n3 c3 : Nat) (l1 l2 l3 : List Opc) (cr : Rec) (ga : Option Addr) (gn gc : Nat) (l : List Rec) (w : World) (hn1 : l1.length = n1) (hr1 : Rds w a1 (l1.flatMap opcV)) (hb1 : n1 ≤ 1000000) (hn2 : l2.length = n2) (hr2 : Rds w a2 (l2.flatMap opcV)) (hb2 : n2 ≤ 1000000) (hn3 : l3.length = n3) (hr3 : Rds w a3 (l3.flatMap opcV)) (hb3 : n3 ≤ 1000000) (hn : l.length = gn) (hr : Rds w ga (l.flatMap recV)) (hb : gn ≤ 100000) : Makes Try.prog 210 #[.agg #[.int .i64 kz, .slice a1 n1 c1, .slice a2 n2 c2, .slice a3 n3 c3], .agg #[.bool cr.dead, .int .i64 cr.key.toInt, .int .i64 cr.value.toInt, .int .i64 cr.seq.toInt], .slice ga gn gc] w [] (X := Option Addr × Nat) (fun x => .tuple #[slV (msort false (stepO (chkB kz l1 l2 l3) l2 l3 cr l)) x, .agg #[.bool ((stepC (chkB kz l1 l2 l3) l2 l3 cr l).dead), .int .i64 (((stepC (chkB kz l1 l2 l3) l2 l3 cr l).key).toInt), .int .i64 (((stepC (chkB kz l1 l2 l3) l2 l3 cr l).value).toInt), .int .i64 (((stepC (chkB kz l1 l2 l3) l2 l3 cr l).seq).toInt)]]) (fun x => [slR recV 4 23 (msort false (stepO (chkB kz l1 l2 l3) l2 l3 cr l)) x]) (fun _ => True) := by
 refine calls_S (n := 19) (σ0 := (upd (upd (upd fr0 0 (.agg #[.int .i64 kz, .slice a1 n1 c1, .slice a2 n2 c2, .slice a3 n3 c3])) 1 (.agg #[.bool cr.dead, .int .i64 cr.key.toInt, .int .i64 cr.value.toInt, .int .i64 cr.seq.toInt])) 2 (.slice ga gn gc))) (D := []) (A := []) Try.func210 rfl Try.ntmps210 rfl (a3_fr _ _ _) (SH.start w) ?_
 refine wpS_seq ?_
 refine wpS_region ?_
 refine s_e rfl ?_
 refine e_box (v := .agg #[.int .i64 kz, .slice a1 n1 c1, .slice a2 n2 c2, .slice a3 n3 c3]) (l := [.int .i64 kz, .slice a1 n1 c1, .slice a2 n2 c2, .slice a3 n3 c3]) rfl rfl ?_
 intro b_1
 refine s_e rfl ?_
 refine e_box (v := .agg #[.bool cr.dead, .int .i64 cr.key.toInt, .int .i64 cr.value.toInt, .int .i64 cr.seq.toInt]) (l := [.bool cr.dead, .int .i64 cr.key.toInt, .int .i64 cr.value.toInt, .int .i64 cr.seq.toInt]) rfl rfl ?_
 intro b_2
 refine s_y (v := .slice none 0 0) (y_assign rfl) rfl ?_
 refine s_e rfl ?_
 refine e_alloc (l := [.bool false, .int .i64 0, .int .i64 0, .int .i64 0]) Try.zeroValue23 rfl ?_
 intro b_3
 refine wpL_nil ?_
 refine thenS_n ?_
 refine wpS_seq ?_
 refine wpS_region ?_
 refine s_y (v := .agg #[.int .i64 kz, .slice a1 n1 c1, .slice a2 n2 c2, .slice a3 n3 c3]) (y_loadN rfl Try.isAgg84 Try.sizeOf84 (ownN (.t (.t .h)) rfl)) rfl ?_
 refine s_y (v := .agg #[.bool cr.dead, .int .i64 cr.key.toInt, .int .i64 cr.value.toInt, .int .i64 cr.seq.toInt]) (y_loadN rfl Try.isAgg23 Try.sizeOf23 (ownN (.t .h) rfl)) rfl ?_
 refine s_y (v := .slice ga gn gc) (y_move rfl) rfl ?_
 refine s_e rfl ?_
 refine e_call (f := 91) (args := #[.agg #[.int .i64 kz, .slice a1 n1 c1, .slice a2 n2 c2, .slice a3 n3 c3], .agg #[.bool cr.dead, .int .i64 cr.key.toInt, .int .i64 cr.value.toInt, .int .i64 cr.seq.toInt], .slice ga gn gc]) (X := Option Addr × Nat) (A := []) (M := [cel b_3 23 [.bool false, .int .i64 0, .int .i64 0, .int .i64 0], cel b_2 23 [.bool cr.dead, .int .i64 cr.key.toInt, .int .i64 cr.value.toInt, .int .i64 cr.seq.toInt], cel b_1 84 [.int .i64 kz, .slice a1 n1 c1, .slice a2 n2 c2, .slice a3 n3 c3]]) (V := fun x => .tuple #[slV (stepO (chkB kz l1 l2 l3) l2 l3 cr l) x, .agg #[.bool ((stepC (chkB kz l1 l2 l3) l2 l3 cr l).dead), .int .i64 (((stepC (chkB kz l1 l2 l3) l2 l3 cr l).key).toInt), .int .i64 (((stepC (chkB kz l1 l2 l3) l2 l3 cr l).value).toInt), .int .i64 (((stepC (chkB kz l1 l2 l3) l2 l3 cr l).seq).toInt)]]) (A' := fun x => [slR recV 4 23 (stepO (chkB kz l1 l2 l3) l2 l3 cr l) x]) (C := fun _ => True) Try.call91 (ev3 rfl rfl rfl) (.p .h (.p .h (.p .h .nil))) (fun w hs => cstep_c kz a1 a2 a3 n1 c1 n2 c2 n3 c3 l1 l2 l3 cr ga gn gc l w hn1 ((oldR hr1) w hs) (by omega) hn2 ((oldR hr2) w hs) (by omega) hn3 ((oldR hr3) w hs) (by omega) hn ((oldR hr) w hs) (by omega)) ?_
 rintro ⟨a_4, c_5⟩ -
 have hso7 : (stepO (chkB kz l1 l2 l3) l2 l3 cr l).length ≤ l.length := stepO_le
 try simp only [List.length_cons, List.length_nil, Nat.zero_add] at hso7
 refine s_y (v := .tuple #[.slice a_4 ((stepO (chkB kz l1 l2 l3) l2 l3 cr l).length) c_5, .agg #[.bool ((stepC (chkB kz l1 l2 l3) l2 l3 cr l).dead), .int .i64 (((stepC (chkB kz l1 l2 l3) l2 l3 cr l).key).toInt), .int .i64 (((stepC (chkB kz l1 l2 l3) l2 l3 cr l).value).toInt), .int .i64 (((stepC (chkB kz l1 l2 l3) l2 l3 cr l).seq).toInt)]]) (y_move rfl) rfl ?_
 refine s_y (v := .slice a_4 ((stepO (chkB kz l1 l2 l3) l2 l3 cr l).length) c_5) (y_extract rfl rfl) rfl ?_
 refine s_y (v := .agg #[.bool ((stepC (chkB kz l1 l2 l3) l2 l3 cr l).dead), .int .i64 (((stepC (chkB kz l1 l2 l3) l2 l3 cr l).key).toInt), .int .i64 (((stepC (chkB kz l1 l2 l3) l2 l3 cr l).value).toInt), .int .i64 (((stepC (chkB kz l1 l2 l3) l2 l3 cr l).seq).toInt)]) (y_extract rfl rfl) rfl ?_
 refine s_y (v := .slice a_4 ((stepO (chkB kz l1 l2 l3) l2 l3 cr l).length) c_5) (y_assign rfl) rfl ?_
 refine s_e0 ?_
 refine e_store (vs := [.bool ((stepC (chkB kz l1 l2 l3) l2 l3 cr l).dead), .int .i64 (((stepC (chkB kz l1 l2 l3) l2 l3 cr l).key).toInt), .int .i64 (((stepC (chkB kz l1 l2 l3) l2 l3 cr l).value).toInt), .int .i64 (((stepC (chkB kz l1 l2 l3) l2 l3 cr l).seq).toInt)]) (l' := [.bool ((stepC (chkB kz l1 l2 l3) l2 l3 cr l).dead), .int .i64 (((stepC (chkB kz l1 l2 l3) l2 l3 cr l).key).toInt), .int .i64 (((stepC (chkB kz l1 l2 l3) l2 l3 cr l).value).toInt), .int .i64 (((stepC (chkB kz l1 l2 l3) l2 l3 cr l).seq).toInt)]) rfl rfl rfl rfl Try.sizeOf23 (.t (.t .h)) (Nat.le_of_ble_eq_true rfl) rfl ?_
 refine wpL_nil ?_
 refine thenS_n ?_
 refine wpS_seq ?_
 refine wpS_anyL [cel b_2 23 [.bool ((stepC (chkB kz l1 l2 l3) l2 l3 cr l).dead), .int .i64 (((stepC (chkB kz l1 l2 l3) l2 l3 cr l).key).toInt), .int .i64 (((stepC (chkB kz l1 l2 l3) l2 l3 cr l).value).toInt), .int .i64 (((stepC (chkB kz l1 l2 l3) l2 l3 cr l).seq).toInt)], osl a_4 c_5 ((stepO (chkB kz l1 l2 l3) l2 l3 cr l).length) 4 23 ((stepO (chkB kz l1 l2 l3) l2 l3 cr l).flatMap recV)] [] (by kernel_rfl) ?_
 refine anyS_take (i := 0) rfl (by kernel_rfl) (by kernel_rfl) (by kernel_rfl) (by kernel_rfl) (Yq.of (v := .slice a_4 ((stepO (chkB kz l1 l2 l3) l2 l3 cr l).length) c_5) (y_move rfl) rfl) (.p .h (.p .h .nil)) ?_
 refine anyS_take (i := 2) rfl (by kernel_rfl) (by kernel_rfl) (by kernel_rfl) (by kernel_rfl) (Yq.of (v := .agg #[.bool ((stepC (chkB kz l1 l2 l3) l2 l3 cr l).dead), .int .i64 (((stepC (chkB kz l1 l2 l3) l2 l3 cr l).key).toInt), .int .i64 (((stepC (chkB kz l1 l2 l3) l2 l3 cr l).value).toInt), .int .i64 (((stepC (chkB kz l1 l2 l3) l2 l3 cr l).seq).toInt)]) (y_loadN rfl Try.isAgg23 Try.sizeOf23 (ownN .h rfl)) rfl) (.p .h (.p .h .nil)) ?_
 refine anyS_all (rs := [1]) (by kernel_rfl) (by simp) ?_
 intro i hi; obtain rfl := List.mem_singleton.1 hi; clear hi
 refine opS_0 rfl rfl ?_
 refine e_call (f := 74) (args := #[.slice a_4 ((stepO (chkB kz l1 l2 l3) l2 l3 cr l).length) c_5, .bool false]) (X := Option Addr × Nat) (A := []) (M := [cel b_2 23 [.bool ((stepC (chkB kz l1 l2 l3) l2 l3 cr l).dead), .int .i64 (((stepC (chkB kz l1 l2 l3) l2 l3 cr l).key).toInt), .int .i64 (((stepC (chkB kz l1 l2 l3) l2 l3 cr l).value).toInt), .int .i64 (((stepC (chkB kz l1 l2 l3) l2 l3 cr l).seq).toInt)], osl a_4 c_5 ((stepO (chkB kz l1 l2 l3) l2 l3 cr l).length) 4 23 ((stepO (chkB kz l1 l2 l3) l2 l3 cr l).flatMap recV), cel b_3 23 [.bool false, .int .i64 0, .int .i64 0, .int .i64 0], cel b_1 84 [.int .i64 kz, .slice a1 n1 c1, .slice a2 n2 c2, .slice a3 n3 c3]]) (V := slV (msort false (stepO (chkB kz l1 l2 l3) l2 l3 cr l))) (A' := fun x => [slR recV 4 23 (msort false (stepO (chkB kz l1 l2 l3) l2 l3 cr l)) x]) (C := fun x => (msort false (stepO (chkB kz l1 l2 l3) l2 l3 cr l)).length ≤ x.2) Try.call74 (ev2 rfl rfl) (.p .h (.p .h (.p .h (.p .h .nil)))) (fun w hs => (sort_c a_4 ((stepO (chkB kz l1 l2 l3) l2 l3 cr l).length) c_5 (stepO (chkB kz l1 l2 l3) l2 l3 cr l) false w rfl (oslR (.t .h) w hs) (by omega)).cap) ?_
 rintro ⟨a_8, c_9⟩ hc10; replace hc10 : (msort false (stepO (chkB kz l1 l2 l3) l2 l3 cr l)).length ≤ c_9 := hc10
 refine ⟨.inr (.p (.t .h) (.p (.t .h) .nil)), ?_⟩
 refine anyS_take (i := 3) rfl (by kernel_rfl) (by kernel_rfl) (by kernel_rfl) (by kernel_rfl) (Yq.of (v := .slice a_8 ((msort false (stepO (chkB kz l1 l2 l3) l2 l3 cr l)).length) c_9) (y_assign rfl) rfl) (.p (.t .h) (.p (.t .h) .nil)) ?_
 refine anyS_all (rs := [4]) (by kernel_rfl) (by simp) ?_
 intro i hi; obtain rfl := List.mem_singleton.1 hi; clear hi
 refine opS_0 rfl rfl ?_
 refine e_store (vs := [.bool ((stepC (chkB kz l1 l2 l3) l2 l3 cr l).dead), .int .i64 (((stepC (chkB kz l1 l2 l3) l2 l3 cr l).key).toInt), .int .i64 (((stepC (chkB kz l1 l2 l3) l2 l3 cr l).value).toInt), .int .i64 (((stepC (chkB kz l1 l2 l3) l2 l3 cr l).seq).toInt)]) (l' := [.bool ((stepC (chkB kz l1 l2 l3) l2 l3 cr l).dead), .int .i64 (((stepC (chkB kz l1 l2 l3) l2 l3 cr l).key).toInt), .int .i64 (((stepC (chkB kz l1 l2 l3) l2 l3 cr l).value).toInt), .int .i64 (((stepC (chkB kz l1 l2 l3) l2 l3 cr l).seq).toInt)]) rfl rfl rfl rfl Try.sizeOf23 (.t (.t (.t .h))) (Nat.le_of_ble_eq_true rfl) rfl ?_
 refine ⟨.inr (.p (.t (.t .h)) (.p (.t (.t .h)) .nil)), ?_⟩
 refine anyS_done (by kernel_rfl) ?_
 refine thenS_n ?_
 refine wpS_ret ?_
 refine fin2 (M := [cel b_3 23 [.bool ((stepC (chkB kz l1 l2 l3) l2 l3 cr l).dead), .int .i64 (((stepC (chkB kz l1 l2 l3) l2 l3 cr l).key).toInt), .int .i64 (((stepC (chkB kz l1 l2 l3) l2 l3 cr l).value).toInt), .int .i64 (((stepC (chkB kz l1 l2 l3) l2 l3 cr l).seq).toInt)], osl a_8 c_9 ((msort false (stepO (chkB kz l1 l2 l3) l2 l3 cr l)).length) 4 23 ((msort false (stepO (chkB kz l1 l2 l3) l2 l3 cr l)).flatMap recV)]) (.inr rfl) (.p .h (.p .h .nil)) Try.results210 (rvT (v := .slice a_8 ((msort false (stepO (chkB kz l1 l2 l3) l2 l3 cr l)).length) c_9) rfl) (rvC (vs := [.bool ((stepC (chkB kz l1 l2 l3) l2 l3 cr l).dead), .int .i64 (((stepC (chkB kz l1 l2 l3) l2 l3 cr l).key).toInt), .int .i64 (((stepC (chkB kz l1 l2 l3) l2 l3 cr l).value).toInt), .int .i64 (((stepC (chkB kz l1 l2 l3) l2 l3 cr l).seq).toInt)]) rfl Try.isAgg23 Try.sizeOf23 (fun w hs => ownN .h rfl w hs)) ?_
 exact fun w' hs => ⟨(a_8, c_9), rfl, hs.ent (.p (.t .h) .nil), trivial⟩
theorem pairs_c (oa : Option Addr) (on oc : Nat) (hd : List SlH) (bs : List (List Rec)) (w : World) (hn : hd.length = on) (hr : Rds w oa (hd.flatMap slhV)) (hbn : bs.length = on) (hfa : ∀ k, k < on → (bs.getD k []).length = (hd.getD k default).n ∧ Rds w (hd.getD k default).a ((bs.getD k []).flatMap recV)) (hb1 : on ≤ 100) (hb : bs.flatten.length ≤ 1000) : MakesS Try.prog 211 #[.slice oa on oc] w [] prV 2 89 (alv bs.flatten) := by
 refine calls_S (n := 26) (σ0 := (upd fr0 0 (.slice oa on oc))) (D := []) (A := []) Try.func211 rfl Try.ntmps211 rfl (a1_fr _) (SH.start w) ?_
 refine wpS_seq ?_
 refine wpS_region ?_
 refine s_y (v := .slice none 0 0) (y_assign rfl) rfl ?_
 refine wpL_nil ?_
 refine thenS_n ?_
 refine wpS_seq ?_
 refine wpS_region ?_
 refine s_y (v := .slice none 0 0) (y_assign rfl) rfl ?_
 refine wpL_nil ?_
 refine thenS_n ?_
 refine wpS_seq ?_
 refine wpS_seq ?_
 refine wpS_region ?_
 refine s_y (v := .slice oa on oc) (y_move rfl) rfl ?_
 refine s_e rfl ?_
 refine e_call (f := 167) (args := #[.slice oa on oc]) (X := Option Addr × Nat) (A := []) (M := []) (V := slV bs.flatten) (A' := fun x => [slR recV 4 23 bs.flatten x]) (C := fun x => bs.flatten.length ≤ x.2) Try.call167 (ev1 rfl) (.nil) (fun w hs => (concat_c oa on oc hd bs w hn hbn (oldR hr w hs) (fun k hk => ⟨(hfa k hk).1, oldR (hfa k hk).2 w hs⟩) (by omega) (by omega)).cap) ?_
 rintro ⟨a_1, c_2⟩ hc3; replace hc3 : bs.flatten.length ≤ c_2 := hc3
 refine s_y (v := .int .i64 ((bs.flatten.length : Nat) : Int)) (y_len (ty' := 0) (at_ := #[]) rfl Try.underlying69) rfl ?_
 refine s_y (v := .int .i64 0) (y_move rfl) rfl ?_
 refine wpL_nil ?_
 refine thenS_n ?_
 refine wpS_block ?_
 refine wpS_nil0 2 89 ?_
 refine wpS_loop (fun mez ds σ L => ∃ i : Nat, ∃ ps : List Pr, ∃ pa : Option Addr, ∃ pc : Nat, mez = bs.flatten.length - i ∧ (i ≤ bs.flatten.length) ∧ (ps.length ≤ i) ∧ (ps = alv (bs.flatten.take i)) ∧ ds = [] ∧ σ 3 = .slice pa ps.length pc ∧ σ 7 = .slice a_1 bs.flatten.length c_2 ∧ σ 8 = .int .i64 ((bs.flatten.length : Nat) : Int) ∧ σ 9 = .int .i64 ((i : Nat) : Int) ∧ Ent L [osl pa pc ps.length 2 89 (ps.flatMap prV), osl a_1 c_2 bs.flatten.length 4 23 (bs.flatten.flatMap recV)]) (m0 := bs.flatten.length - 0) ⟨0, [], none, 0, rfl, by omega, (Nat.le_refl _), rfl, rfl, rfl, rfl, rfl, rfl, .p .h (.p .h .nil)⟩ ?_
 rintro mez ds σ L ⟨i, ps, pa, pc, hm_5, hf0_5, hf1_5, hf2_5, rfl, h3_5, h7_5, h8_5, h9_5, hE_5⟩
 refine wpS_ent hE_5 ?_; clear hE_5
 refine wpS_seq ?_
 refine wpS_region ?_
 refine s_y (v := .bool (decide (i < bs.flatten.length))) (y_lss (a := ((i : Nat) : Int)) (b := ((bs.flatten.length : Nat) : Int)) (c := decide (i < bs.flatten.length)) h9_5 h8_5 (decide_eq_decide.2 (by omega))) rfl ?_
 refine wpL_nil ?_
 refine thenS_n ?_
 refine wpS_seq ?_
 refine wpS_cond (t := decide (i < bs.flatten.length)) rfl (fun b6 => ?_) (fun b6 => ?_)
 ·
  have p6 := of_decide_eq_true b6
  refine wpS_skip ?_
  refine thenS_n ?_
  refine wpS_seq ?_
  refine wpS_block ?_
  refine wpS_seq ?_
  refine wpS_region ?_
  refine s_y (v := .pointer (some ⟨aB a_1, aO a_1 + i * 4, none⟩)) (y_idx (o := i * 4) h7_5 h9_5 Try.underlying69 Try.sizeOf23 (oslR (.t .h)) (fl_len recV_len _) (by decide) (by omega) (by omega) (by omega)) rfl ?_
  refine s_y (v := .agg #[.bool ((bs.flatten.getD i default).dead), .int .i64 (((bs.flatten.getD i default).key).toInt), .int .i64 (((bs.flatten.getD i default).value).toInt), .int .i64 (((bs.flatten.getD i default).seq).toInt)]) (y_loadN (vs := recV (bs.flatten.getD i default)) rfl Try.isAgg23 Try.sizeOf23 (rdN (oslR (.t .h)) (fl_getN recV_len bs.flatten i (by first | omega | (simp only [List.length_set, List.length_take, List.length_drop]; done) | (simp only [List.length_set, List.length_take, List.length_drop]; omega))))) rfl ?_
  refine s_e rfl ?_
  refine e_alloc (l := [.bool false, .int .i64 0, .int .i64 0, .int .i64 0]) Try.zeroValue23 rfl ?_
  intro b_7
  refine s_e0 ?_
  refine e_store (vs := [.bool ((bs.flatten.getD i default).dead), .int .i64 (((bs.flatten.getD i default).key).toInt), .int .i64 (((bs.flatten.getD i default).value).toInt), .int .i64 (((bs.flatten.getD i default).seq).toInt)]) (l' := [.bool ((bs.flatten.getD i default).dead), .int .i64 (((bs.flatten.getD i default).key).toInt), .int .i64 (((bs.flatten.getD i default).value).toInt), .int .i64 (((bs.flatten.getD i default).seq).toInt)]) rfl rfl rfl rfl Try.sizeOf23 .h (Nat.le_of_ble_eq_true rfl) rfl ?_
  refine wpL_nil ?_
  refine thenS_n ?_
  refine wpS_seq ?_
  refine wpS_region ?_
  refine s_y (v := .pointer (some ⟨b_7, 0, none⟩)) (y_fieldAddr (o' := 0) rfl Try.underlying23 rfl Try.sizeOf4 (by decide) rfl) rfl ?_
  refine s_y (v := .bool ((bs.flatten.getD i default).dead)) (y_load1 rfl Try.isAgg4 (own1 .h rfl)) rfl ?_
  refine s_y (v := .bool (!((bs.flatten.getD i default).dead))) (y_not (b := (bs.flatten.getD i default).dead) rfl) rfl ?_
  refine wpL_nil ?_
  refine thenS_n ?_
  refine wpS_cond (t := !((bs.flatten.getD i default).dead)) rfl (fun b8 => ?_) (fun b8 => ?_)
  ·
   have b9 : ((bs.flatten.getD i default).dead) = false := by simpa using b8
   refine wpS_region ?_
   refine s_y (v := .slice pa ps.length pc) (y_move h3_5) rfl ?_
   refine s_y (v := .pointer (some ⟨b_7, 1, none⟩)) (y_fieldAddr (o' := 1) rfl Try.underlying23 rfl Try.sizeOf2 (by decide) rfl) rfl ?_
   refine s_y (v := .int .i64 (((bs.flatten.getD i default).key).toInt)) (y_load1 rfl Try.isAgg2 (own1 .h rfl)) rfl ?_
   refine s_y (v := .pointer (some ⟨b_7, 2, none⟩)) (y_fieldAddr (o' := 2) rfl Try.underlying23 rfl Try.sizeOf2 (by decide) rfl) rfl ?_
   refine s_y (v := .int .i64 (((bs.flatten.getD i default).value).toInt)) (y_load1 rfl Try.isAgg2 (own1 .h rfl)) rfl ?_
   refine s_y (v := .agg #[.int .i64 (((bs.flatten.getD i default).key).toInt), .int .i64 (((bs.flatten.getD i default).value).toInt)]) (y_buildL (m := [(0, .int .i64 (((bs.flatten.getD i default).key).toInt)), (1, .int .i64 (((bs.flatten.getD i default).value).toInt))]) (vs := #[.int .i64 (((bs.flatten.getD i default).key).toInt), .int .i64 (((bs.flatten.getD i default).value).toInt)]) (evc rfl (evc rfl evn)) (fun w => by kernel_rfl)) rfl ?_
   refine s_e rfl ?_
   refine e_bsliceL (e := 89) (m := [(0, .agg #[.int .i64 (((bs.flatten.getD i default).key).toInt), .int .i64 (((bs.flatten.getD i default).value).toInt)])]) (l := [.int .i64 (((bs.flatten.getD i default).key).toInt), .int .i64 (((bs.flatten.getD i default).value).toInt)]) (evc rfl evn) (fun w => by kernel_rfl) ?_
   intro b_10
   refine s_e rfl ?_
   refine e_appendL (enc := prV) (xs := (ps : List Pr)) (ns := ([(((bs.flatten.getD i default).key, (bs.flatten.getD i default).value) : Pr)] : List Pr)) (zs := (ps ++ [(((bs.flatten.getD i default).key, (bs.flatten.getD i default).value) : Pr)])) (bytes := 16) prV_len prV_one Try.underlying153 (i := Try.t89) rfl rfl rfl rfl rfl (by decide) rfl rfl (by first | rfl | omega) (by first | rfl | omega) (.t (.t .h)) (fun w hs => celR .h w hs) (by first | rfl | simp) (by (try simp only [List.length_append, List.length_cons, List.length_nil] at *); omega) (by (try simp only [List.length_append, List.length_cons, List.length_nil] at *); omega) ?_
   intro a_11 c_12
   refine s_y (v := .slice a_11 ((ps ++ [(((bs.flatten.getD i default).key, (bs.flatten.getD i default).value) : Pr)]).length) c_12) (y_assign rfl) rfl ?_
   refine wpL_nil ?_
   refine blockS_n ?_
   refine thenS_n ?_
   refine wpS_region ?_
   refine s_y (v := .int .i64 (((i + 1) : Nat) : Int)) (y_add (a := ((i : Nat) : Int)) (b := 1) h9_5 rfl (wI (by omega) (by omega) (by omega))) rfl ?_
   refine s_y (v := .int .i64 (((i + 1) : Nat) : Int)) (y_move rfl) rfl ?_
   refine wpL_nil ?_
   refine thenS_n ?_
   exact ⟨_, by omega, ⟨(i + 1), (ps ++ [(((bs.flatten.getD i default).key, (bs.flatten.getD i default).value) : Pr)]), a_11, c_12, rfl, by omega, (by first | omega | (rw [List.length_append, List.length_singleton]; omega)), (by first | exact alv_y (by assumption) (by omega) (by assumption) | exact alv_n (by assumption) (by omega) (by assumption)), rfl, rfl, h7_5, h8_5, rfl, .p .h (.p (.t (.t .h)) .nil)⟩⟩
  ·
   have b13 : ((bs.flatten.getD i default).dead) = true := by simpa using b8
   refine wpS_skip ?_
   refine blockS_n ?_
   refine thenS_n ?_
   refine wpS_region ?_
   refine s_y (v := .int .i64 (((i + 1) : Nat) : Int)) (y_add (a := ((i : Nat) : Int)) (b := 1) h9_5 rfl (wI (by omega) (by omega) (by omega))) rfl ?_
   refine s_y (v := .int .i64 (((i + 1) : Nat) : Int)) (y_move rfl) rfl ?_
   refine wpL_nil ?_
   refine thenS_n ?_
   exact ⟨_, by omega, ⟨(i + 1), ps, pa, pc, rfl, by omega, (by first | omega | (rw [List.length_append, List.length_singleton]; omega)), (by first | exact alv_y (by assumption) (by omega) (by assumption) | exact alv_n (by assumption) (by omega) (by assumption)), rfl, h3_5, h7_5, h8_5, rfl, .p (.t .h) (.p (.t .h) .nil)⟩⟩
 ·
  have p6 := of_decide_eq_false b6
  refine wpS_exit ?_
  refine thenS_x ?_
  refine thenS_x ?_
  refine blockS_h ?_
  refine thenS_n ?_
  refine wpS_seq ?_
  refine wpS_region ?_
  refine s_y (v := .slice pa ps.length pc) (y_move h3_5) rfl ?_
  refine s_y (v := .slice pa ps.length pc) (y_assign rfl) rfl ?_
  refine wpL_nil ?_
  refine thenS_n ?_
  refine wpS_ret ?_
  refine fin1 (M := [osl pa pc ps.length 2 89 (ps.flatMap prV)]) (v := .slice pa ps.length pc) (.inr rfl) (.p .h .nil) Try.results211 rfl ?_
  exact fun w' hs => ⟨(pa, pc), by rw [show (alv bs.flatten) = ps from (by have h := (by assumption : ps = alv (bs.flatten.take i)); rw [List.take_of_length_le (by omega)] at h; exact h.symm)], by rw [show (alv bs.flatten) = ps from (by have h := (by assumption : ps = alv (bs.flatten.take i)); rw [List.take_of_length_le (by omega)] at h; exact h.symm)]; exact hs, trivial⟩
theorem chunkR_c (a : Option Addr) (n c z : Nat) (w : World) (hz : 1 ≤ z) (hz2 : z ≤ 1000000) : Makes Try.prog 244 #[.slice a n c, .int .i64 ((z : Nat) : Int)] w [] (X := Nat × Nat) (fun x : Nat × Nat => .func (.func 246) #[] #[.pointer (some ⟨x.1, 0, none⟩), .pointer (some ⟨x.2, 0, none⟩)]) (fun x : Nat × Nat => [cel x.1 69 [.slice a n c], cel x.2 3 [.int .i64 ((z : Nat) : Int)]]) (fun _ => True) := by
 refine calls_S (n := 9) (σ0 := (upd (upd fr0 0 (.slice a n c)) 1 (.int .i64 ((z : Nat) : Int)))) (D := []) (A := []) Try.func244 rfl Try.ntmps244 rfl (a2_fr _ _) (SH.start w) ?_
 refine wpS_seq ?_
 refine wpS_region ?_
 refine s_e rfl ?_
 refine e_box (v := .slice a n c) (l := [.slice a n c]) rfl rfl ?_
 intro b_1
 refine s_e rfl ?_
 refine e_box (v := .int .i64 ((z : Nat) : Int)) (l := [.int .i64 ((z : Nat) : Int)]) rfl rfl ?_
 intro b_2
 refine s_y (v := .nilFunc) (y_assign rfl) rfl ?_
 refine wpL_nil ?_
 refine thenS_n ?_
 refine wpS_seq ?_
 refine wpS_seq ?_
 refine wpS_region ?_
 refine s_y (v := .int .i64 ((z : Nat) : Int)) (y_load1 rfl Try.isAgg3 (own1 .h rfl)) rfl ?_
 refine s_y (v := .bool (decide ((z : Nat) < 1))) (y_lss (a := ((z : Nat) : Int)) (b := 1) (c := decide ((z : Nat) < 1)) rfl rfl (decide_eq_decide.2 (by omega))) rfl ?_
 refine wpL_nil ?_
 refine thenS_n ?_
 refine wpS_cond_F (t := decide ((z : Nat) < 1)) rfl (decide_eq_false (by omega)) ?_
 refine wpS_skip ?_
 refine thenS_n ?_
 refine wpS_seq ?_
 refine wpS_region ?_
 refine s_y (v := .func (.func 246) #[] #[.pointer (some ⟨b_1, 0, none⟩), .pointer (some ⟨b_2, 0, none⟩)]) (y_makeFunc (a := #[]) (b := #[.pointer (some ⟨b_1, 0, none⟩), .pointer (some ⟨b_2, 0, none⟩)]) ev0 (ev2 rfl rfl)) rfl ?_
 refine s_y (v := .func (.func 246) #[] #[.pointer (some ⟨b_1, 0, none⟩), .pointer (some ⟨b_2, 0, none⟩)]) (y_assign rfl) rfl ?_
 refine wpL_nil ?_
 refine thenS_n ?_
 refine wpS_ret ?_
 refine fin1 (M := [cel b_1 69 [.slice a n c], cel b_2 3 [.int .i64 ((z : Nat) : Int)]]) (v := .func (.func 246) #[] #[.pointer (some ⟨b_1, 0, none⟩), .pointer (some ⟨b_2, 0, none⟩)]) (.inr rfl) (.p (.t .h) (.p .h .nil)) Try.results244 rfl ?_
 exact fun w' hs => ⟨(b_1, b_2), rfl, hs, trivial⟩
theorem chunkR_it (b1 b2 : Nat) (a : Option Addr) (n c : Nat) (vs : List Rec) (z m : Nat) (w : World) (hb1 : w.cell? ⟨b1, 0, none⟩ = some (.slice a n c)) (hb2 : w.cell? ⟨b2, 0, none⟩ = some (.int .i64 ((z : Nat) : Int))) (hn : vs.length = n) (hr : Rds w a (vs.flatMap recV)) (hnm : n = z * m) (hz : 1 ≤ z) (hbn : n ≤ 1000000) (hc : n ≤ c) : Iter Try.prog 246 #[.pointer (some ⟨b1, 0, none⟩), .pointer (some ⟨b2, 0, none⟩)] (fun k => #[.slice (subA a (z * k + z) (z * k) 4) z z]) m (fun y => y = b1 ∨ y = b2 ∨ 0 < vs.length ∧ y = aB a) w := by
 intro yv I E A hrd hI hA hY
 show Calls Try.prog 246 #[yv, .pointer (some ⟨b1, 0, none⟩), .pointer (some ⟨b2, 0, none⟩)] w _
 refine calls_S (n := 31) (σ0 := (upd (upd (upd fr0 0 yv) 1 (.pointer (some ⟨b1, 0, none⟩))) 2 (.pointer (some ⟨b2, 0, none⟩)))) (D := (A.flatMap Res.fp)) (A := A) Try.func246 rfl Try.ntmps246 rfl (a3_fr _ _ _) hA ?_
 refine wpS_seq ?_
 refine wpS_region ?_
 refine s_y (v := .int .i64 0) (y_assign rfl) rfl ?_
 refine wpL_nil ?_
 refine thenS_n ?_
 refine wpS_block ?_
 refine wpS_loop (fun mez ds σ L => ∃ i : Nat, ∃ A1 : List Res, mez = m - i ∧ (i ≤ m) ∧ (I i A1) ∧ ds = [] ∧ σ 0 = yv ∧ σ 1 = .pointer (some ⟨b1, 0, none⟩) ∧ σ 2 = .pointer (some ⟨b2, 0, none⟩) ∧ σ 4 = .int .i64 (((z * i) : Nat) : Int) ∧ Ent L A1) (m0 := m - 0) ⟨0, A, rfl, by omega, hI, rfl, rfl, rfl, rfl, (congrArg (Value.int .i64) (by first | rfl | (rw [Nat.mul_succ]))), (Ent.refl _)⟩ ?_
 rintro mez ds σ L ⟨i, A1, hm_1, hf0_1, hf1_1, rfl, h0_1, h1_1, h2_1, h4_1, hE_1⟩
 refine wpS_ent hE_1 ?_; clear hE_1
 refine wpS_seq ?_
 refine wpS_seq ?_
 refine wpS_region ?_
 refine s_y (v := .int .i64 (((z * i) : Nat) : Int)) (y_move h4_1) rfl ?_
 refine s_y (v := .slice a n c) (y_load1 h1_1 Try.isAgg69 (old1 hb1 (hrd _ (.inl rfl)))) rfl ?_
 refine s_y (v := .int .i64 ((n : Nat) : Int)) (y_len (ty' := 0) (at_ := #[]) rfl Try.underlying69) rfl ?_
 refine s_y (v := .bool (decide ((z * i) < n))) (y_lss (a := (((z * i) : Nat) : Int)) (b := ((n : Nat) : Int)) (c := decide ((z * i) < n)) rfl rfl (decide_eq_decide.2 (by omega))) rfl ?_
 refine wpL_nil ?_
 refine thenS_n ?_
 refine wpS_cond (t := decide ((z * i) < n)) rfl (fun b2 => ?_) (fun b2 => ?_)
 ·
  have p2 := of_decide_eq_true b2
  have him : i < m := chunk_lt (z := z) (by omega)
  have hzi := Nat.mul_le_mul_left z (show i + 1 ≤ m by omega)
  rw [Nat.mul_succ] at hzi
  refine wpS_skip ?_
  refine thenS_n ?_
  refine wpS_seq ?_
  refine wpS_block ?_
  refine wpS_seq ?_
  refine wpS_lex (by kernel_rfl) (by kernel_rfl) ?_
  refine x_y (v := .int .i64 ((z : Nat) : Int)) (y_load1 h2_1 Try.isAgg3 (old1 hb2 (hrd _ (.inr (.inl rfl))))) rfl ?_
  refine x_y (v := .slice a n c) (y_load1 h1_1 Try.isAgg69 (old1 hb1 (hrd _ (.inl rfl)))) rfl ?_
  refine x_y (v := .int .i64 (((z * i) : Nat) : Int)) (y_move h4_1) rfl ?_
  refine x_y (v := .slice (subA a c (z * i) 4) (n - z * i) (c - z * i)) (y_sliceL (l' := z * i) rfl rfl Try.underlying69 Try.sizeOf23 (by omega) (by omega) (by omega)) rfl ?_
  refine x_y (v := .int .i64 (((n - z * i) : Nat) : Int)) (y_len (ty' := 0) (at_ := #[]) rfl Try.underlying69) rfl ?_
  refine x_y (v := .int .i64 ((z : Nat) : Int)) (y_min (a := ((z : Nat) : Int)) (b := (((n - z * i) : Nat) : Int)) rfl rfl (by split <;> omega)) rfl ?_
  refine x_y (v := .int .i64 ((z : Nat) : Int)) (y_assign rfl) rfl ?_
  refine x_nil ?_
  refine thenS_n ?_
  refine wpS_seq ?_
  refine wpS_region ?_
  refine s_y (v := yv) (y_move h0_1) rfl ?_
  refine s_y (v := .slice a n c) (y_load1 h1_1 Try.isAgg69 (old1 hb1 (hrd _ (.inl rfl)))) rfl ?_
  refine s_y (v := .int .i64 (((z * i) : Nat) : Int)) (y_move h4_1) rfl ?_
  refine s_y (v := .int .i64 (((z * i) : Nat) : Int)) (y_move h4_1) rfl ?_
  refine s_y (v := .int .i64 ((z : Nat) : Int)) (y_move rfl) rfl ?_
  refine s_y (v := .int .i64 ((((z * i) + z) : Nat) : Int)) (y_add (a := (((z * i) : Nat) : Int)) (b := ((z : Nat) : Int)) rfl rfl (wI (by omega) (by omega) (by omega))) rfl ?_
  refine s_y (v := .int .i64 (((z * i) : Nat) : Int)) (y_move h4_1) rfl ?_
  refine s_y (v := .int .i64 ((z : Nat) : Int)) (y_move rfl) rfl ?_
  refine s_y (v := .int .i64 ((((z * i) + z) : Nat) : Int)) (y_add (a := (((z * i) : Nat) : Int)) (b := ((z : Nat) : Int)) rfl rfl (wI (by omega) (by omega) (by omega))) rfl ?_
  refine s_y (v := .slice (subA a (z * i + z) (z * i) 4) (z * i + z - z * i) (z * i + z - z * i)) (y_sliceLHM (l' := z * i) (h' := z * i + z) (m' := z * i + z) rfl rfl rfl rfl Try.underlying69 Try.sizeOf23 (by omega) (by omega) (by omega) (by omega) (by omega) (by omega) (by omega)) rfl ?_
  refine s_e rfl ?_
  refine e_yield (own := []) (A := A1) (enc := (fun k => #[.slice (subA a (z * k + z) (z * k) 4) z z])) (k := i) hY rfl ((show _ = #[.slice (subA a (z * i + z) (z * i) 4) (z * i + z - z * i) (z * i + z - z * i)] from ev1 rfl).trans (congrArg (fun q => #[Value.slice (subA a (z * i + z) (z * i) 4) q q]) (Nat.add_sub_cancel_left _ _))) (by first | omega | exact chunk_lt (by omega) (by omega)) (by assumption) ?_ ?_
  ·intro A_3 hI_4
   refine s_y (v := .bool false) (y_notK (b := true) (c := false) rfl rfl) rfl ?_
   refine wpL_nil ?_
   refine thenS_n ?_
   refine wpS_cond_f rfl ?_
   refine wpS_skip ?_
   refine blockS_n ?_
   refine thenS_n ?_
   refine wpS_region ?_
   refine s_y (v := .int .i64 (((z * i) : Nat) : Int)) (y_move h4_1) rfl ?_
   refine s_y (v := .int .i64 ((z : Nat) : Int)) (y_load1 h2_1 Try.isAgg3 (old1 hb2 (hrd _ (.inr (.inl rfl))))) rfl ?_
   refine s_y (v := .int .i64 ((((z * i) + z) : Nat) : Int)) (y_add (a := (((z * i) : Nat) : Int)) (b := ((z : Nat) : Int)) rfl rfl (wI (by omega) (by omega) (by omega))) rfl ?_
   refine s_y (v := .int .i64 ((((z * i) + z) : Nat) : Int)) (y_assign rfl) rfl ?_
   refine wpL_nil ?_
   refine thenS_n ?_
   exact ⟨_, by omega, ⟨(i + 1), A_3, rfl, by omega, hI_4, rfl, h0_1, h1_1, h2_1, (congrArg (Value.int .i64) (by first | rfl | (rw [Nat.mul_succ]))), (Ent.refl _)⟩⟩
  ·intro A_5 hI_6
   refine s_y (v := .bool true) (y_notK (b := false) (c := true) rfl rfl) rfl ?_
   refine wpL_nil ?_
   refine thenS_n ?_
   refine wpS_cond_t rfl ?_
   refine wpS_ret ?_
   refine blockS_r ?_
   refine thenS_r ?_
   refine thenS_r ?_
   refine blockS_r ?_
   exact fin0 (.inr rfl) (Ent.refl _) Try.results246 (fun w' hs => ⟨rfl, A_5, hs, .inr ⟨i, by omega, hI_6⟩⟩)
 ·
  have p2 := of_decide_eq_false b2
  have him : m ≤ i := chunk_ge (z := z) (by omega) (by omega)
  refine wpS_exit ?_
  refine thenS_x ?_
  refine thenS_x ?_
  refine blockS_h ?_
  exact fin0 (.inl rfl) (Ent.refl _) Try.results246 (fun w' hs => ⟨rfl, A1, hs, .inl (by rw [show m = i by omega]; assumption)⟩)
theorem chunkR_at (b1 b2 : Nat) (a : Option Addr) (n c : Nat) (vs : List Rec) (z m : Nat) (w : World) (hb1 : w.cell? ⟨b1, 0, none⟩ = some (.slice a n c)) (hb2 : w.cell? ⟨b2, 0, none⟩ = some (.int .i64 ((z : Nat) : Int))) (hn : vs.length = n) (hr : Rds w a (vs.flatMap recV)) (hnm : n = z * m) (hz : 1 ≤ z) (hbn : n ≤ 1000000 ∧ n ≤ c) :
    IterAt Try.prog 246 #[.pointer (some ⟨b1, 0, none⟩), .pointer (some ⟨b2, 0, none⟩)] (fun k => #[.slice (subA a (z * k + z) (z * k) 4) z z]) m (fun y => y = b1 ∨ y = b2 ∨ 0 < vs.length ∧ y = aB a) w :=
  ⟨fun w' hs => chunkR_it b1 b2 a n c vs z m w' (cell_old hb1 hs) (cell_old hb2 hs) hn (hr.below (SH.below hs)) hnm hz hbn.1 hbn.2, by
    rintro y (rfl | rfl | ⟨hl, rfl⟩)
    · exact cell_lt hb1
    · exact cell_lt hb2
    · exact rdBlk hr (fl_pos recV_len (by decide) hl)⟩
theorem mapped_c (a1 a2 a3 : Option Addr) (n1 c1 n2 c2 n3 c3 : Nat) (l1 l2 l3 : List Opc) (R m S : Nat) (W : Int) (ga : Option Addr) (gc : Nat) (l : List Rec) (w : World) (hn1 : l1.length = n1) (hr1 : Rds w a1 (l1.flatMap opcV)) (hb1 : n1 ≤ 1000000) (hn2 : l2.length = n2) (hr2 : Rds w a2 (l2.flatMap opcV)) (hb2 : n2 ≤ 1000000) (hn3 : l3.length = n3) (hr3 : Rds w a3 (l3.flatMap opcV)) (hb3 : n3 ≤ 1000000) (hck : (chkB ((m : Nat) : Int) l1 l2 l3) = true) (hl : l.length = S) (hr : Rds w ga (l.flatMap recV)) (h1 : 1 ≤ S) (h8 : S ≤ 8) : Makes Try.prog 236 #[.agg #[.int .i64 ((m : Nat) : Int), .slice a1 n1 c1, .slice a2 n2 c2, .slice a3 n3 c3], .agg #[.int .i64 ((R : Nat) : Int), .int .i64 ((m : Nat) : Int), .int .i64 ((S : Nat) : Int), .int .i64 W], .slice ga S gc] w [] (X := (Option Addr × Nat) × List SlH) (fun x => .slice x.1.1 m x.1.2) (fun x => [osl x.1.1 x.1.2 m 1 69 (x.2.flatMap slhV), fam x.2 (mpB (chkB ((m : Nat) : Int) l1 l2 l3) ((m : Nat) : Int) l1 S m l)]) (fun x => x.2.length = m ∧ ∀ k, k < m → (x.2.getD k default).n = S) := by
 refine calls_S (n := 53) (σ0 := (upd (upd (upd fr0 0 (.agg #[.int .i64 ((m : Nat) : Int), .slice a1 n1 c1, .slice a2 n2 c2, .slice a3 n3 c3])) 1 (.agg #[.int .i64 ((R : Nat) : Int), .int .i64 ((m : Nat) : Int), .int .i64 ((S : Nat) : Int), .int .i64 W])) 2 (.slice ga S gc))) (D := []) (A := []) Try.func236 rfl Try.ntmps236 rfl (a3_fr _ _ _) (SH.start w) ?_
 have hm4 := (chk_bd hck).2.1
 have hm1 := (chk_bd hck).1
 have hsm : S * m ≤ 8 * 4 := Nat.mul_le_mul h8 (by omega)
 refine wpS_seq ?_
 refine wpS_region ?_
 refine s_e rfl ?_
 refine e_box (v := .agg #[.int .i64 ((m : Nat) : Int), .slice a1 n1 c1, .slice a2 n2 c2, .slice a3 n3 c3]) (l := [.int .i64 ((m : Nat) : Int), .slice a1 n1 c1, .slice a2 n2 c2, .slice a3 n3 c3]) rfl rfl ?_
 intro b_1
 refine s_e rfl ?_
 refine e_box (v := .agg #[.int .i64 ((R : Nat) : Int), .int .i64 ((m : Nat) : Int), .int .i64 ((S : Nat) : Int), .int .i64 W]) (l := [.int .i64 ((R : Nat) : Int), .int .i64 ((m : Nat) : Int), .int .i64 ((S : Nat) : Int), .int .i64 W]) rfl rfl ?_
 intro b_2
 refine s_y (v := .slice none 0 0) (y_assign rfl) rfl ?_
 refine wpL_nil ?_
 refine thenS_n ?_
 refine wpS_seq ?_
 refine wpS_region ?_
 refine s_e rfl ?_
 refine e_alloc (l := [.slice none 0 0]) Try.zeroValue69 rfl ?_
 intro b_3
 refine wpL_nil ?_
 refine thenS_n ?_
 refine wpS_seq ?_
 refine wpS_seq ?_
 refine wpS_region ?_
 refine s_y (v := .slice ga S gc) (y_move rfl) rfl ?_
 refine s_e rfl ?_
 refine e_call (f := 177) (args := #[.slice ga S gc]) (X := Nat) (A := []) (M := [cel b_3 69 [.slice none 0 0], cel b_2 53 [.int .i64 ((R : Nat) : Int), .int .i64 ((m : Nat) : Int), .int .i64 ((S : Nat) : Int), .int .i64 W], cel b_1 84 [.int .i64 ((m : Nat) : Int), .slice a1 n1 c1, .slice a2 n2 c2, .slice a3 n3 c3]]) (V := fun x : Nat => .func (.func 230) #[] #[.pointer (some ⟨x, 0, none⟩)]) (A' := fun x : Nat => [cel x 69 [.slice ga S gc]]) (C := fun _ => True) Try.call177 (ev1 rfl) (.p .h (.p .h (.p .h .nil))) (fun w hs => valsR_c ga S gc w) ?_
 rintro b_4 -
 refine wpL_nil ?_
 refine thenS_n ?_
 refine wpS_block ?_
 refine wpS_nil0 4 23 ?_
 refine wpS_rangeFunc (f := 230) (cap := #[.pointer (some ⟨b_4, 0, none⟩)]) (enc := fun k => #[.agg #[.bool ((l.getD k default).dead), .int .i64 (((l.getD k default).key).toInt), .int .i64 (((l.getD k default).value).toInt), .int .i64 (((l.getD k default).seq).toInt)]]) (N := S) (rd := fun z => z = b_4 ∨ 0 < l.length ∧ z = aB ga) (A := [osl none 0 0 4 23 (([] : List Rec).flatMap recV), cel b_3 69 [.slice none 0 0], cel b_2 53 [.int .i64 ((R : Nat) : Int), .int .i64 ((m : Nat) : Int), .int .i64 ((S : Nat) : Int), .int .i64 W], cel b_1 84 [.int .i64 ((m : Nat) : Int), .slice a1 n1 c1, .slice a2 n2 c2, .slice a3 n3 c3]]) (M := [cel b_4 69 [.slice ga S gc]]) (fun k A => ∃ xs : List Rec, ∃ xa : Option Addr, ∃ xc : Nat, (xs.length = k * m) ∧ (xs = (mpL (chkB ((m : Nat) : Int) l1 l2 l3) ((m : Nat) : Int) l1 (l.take k))) ∧ A = [osl xa xc xs.length 4 23 (xs.flatMap recV), cel b_3 69 [.slice xa xs.length xc], cel b_2 53 [.int .i64 ((R : Nat) : Int), .int .i64 ((m : Nat) : Int), .int .i64 ((S : Nat) : Int), .int .i64 W], cel b_1 84 [.int .i64 ((m : Nat) : Int), .slice a1 n1 c1, .slice a2 n2 c2, .slice a3 n3 c3]]) (fun k e A => False) rfl Try.call230 (by kernel_rfl) (fun _ => rfl) (.p .h (.p (.t .h) (.p (.t .h) (.p (.t .h) (.p .h .nil))))) ⟨[], none, 0, (by rw [Nat.zero_mul]; rfl), rfl, rfl⟩ (fun w hs => (valsR_at b_4 ga S gc l w (own1 (.t (.t (.t (.t .h)))) rfl w hs) hl ((oldR hr) w hs) (by omega)).it) (fun w hs b hb => by rcases hb with rfl | ⟨hl, rfl⟩; exact apM (A := [osl none 0 0 4 23 (([] : List Rec).flatMap recV), cel b_3 69 [.slice none 0 0], cel b_2 53 [.int .i64 ((R : Nat) : Int), .int .i64 ((m : Nat) : Int), .int .i64 ((S : Nat) : Int), .int .i64 W], cel b_1 84 [.int .i64 ((m : Nat) : Int), .slice a1 n1 c1, .slice a2 n2 c2, .slice a3 n3 c3]]) hs .h (by simp [cel, blk]); exact apOld hs (rdBlk hr (fl_pos recV_len (by decide) hl)) (by simp)) ?_ ?_ ?_
 ·
  rintro k A' hk_5 ⟨xs, xa, xc, hf0_5, hf1_5, rfl⟩ w_5 l_5 hs_5
  refine wpS_region ?_
  refine s_e rfl ?_
  refine e_alloc (l := [.bool false, .int .i64 0, .int .i64 0, .int .i64 0]) Try.zeroValue23 rfl ?_
  intro b_6
  refine s_e0 ?_
  refine e_store (vs := [.bool ((l.getD k default).dead), .int .i64 (((l.getD k default).key).toInt), .int .i64 (((l.getD k default).value).toInt), .int .i64 (((l.getD k default).seq).toInt)]) (l' := [.bool ((l.getD k default).dead), .int .i64 (((l.getD k default).key).toInt), .int .i64 (((l.getD k default).value).toInt), .int .i64 (((l.getD k default).seq).toInt)]) rfl rfl rfl rfl Try.sizeOf23 .h (Nat.le_of_ble_eq_true rfl) rfl ?_
  refine wpL_nil ?_
  refine asg_n fun w2_5 hs2_5 => ?_
  have hrd7 := rdIn (A' := [cel b_6 23 [.bool ((l.getD k default).dead), .int .i64 (((l.getD k default).key).toInt), .int .i64 (((l.getD k default).value).toInt), .int .i64 (((l.getD k default).seq).toInt)], osl xa xc xs.length 4 23 (xs.flatMap recV), cel b_3 69 [.slice xa xs.length xc], cel b_2 53 [.int .i64 ((R : Nat) : Int), .int .i64 ((m : Nat) : Int), .int .i64 ((S : Nat) : Int), .int .i64 W], cel b_1 84 [.int .i64 ((m : Nat) : Int), .slice a1 n1 c1, .slice a2 n2 c2, .slice a3 n3 c3]]) hs2_5 (oldR hr w2_5 hs2_5) (fun hl => ⟨rdBlk hr hl, by simp⟩)
  have hrd8 := rdIn (A' := [cel b_6 23 [.bool ((l.getD k default).dead), .int .i64 (((l.getD k default).key).toInt), .int .i64 (((l.getD k default).value).toInt), .int .i64 (((l.getD k default).seq).toInt)], osl xa xc xs.length 4 23 (xs.flatMap recV), cel b_3 69 [.slice xa xs.length xc], cel b_2 53 [.int .i64 ((R : Nat) : Int), .int .i64 ((m : Nat) : Int), .int .i64 ((S : Nat) : Int), .int .i64 W], cel b_1 84 [.int .i64 ((m : Nat) : Int), .slice a1 n1 c1, .slice a2 n2 c2, .slice a3 n3 c3]]) hs2_5 (oldR hr1 w2_5 hs2_5) (fun hl => ⟨rdBlk hr1 hl, by simp⟩)
  have hrd9 := rdIn (A' := [cel b_6 23 [.bool ((l.getD k default).dead), .int .i64 (((l.getD k default).key).toInt), .int .i64 (((l.getD k default).value).toInt), .int .i64 (((l.getD k default).seq).toInt)], osl xa xc xs.length 4 23 (xs.flatMap recV), cel b_3 69 [.slice xa xs.length xc], cel b_2 53 [.int .i64 ((R : Nat) : Int), .int .i64 ((m : Nat) : Int), .int .i64 ((S : Nat) : Int), .int .i64 W], cel b_1 84 [.int .i64 ((m : Nat) : Int), .slice a1 n1 c1, .slice a2 n2 c2, .slice a3 n3 c3]]) hs2_5 (oldR hr2 w2_5 hs2_5) (fun hl => ⟨rdBlk hr2 hl, by simp⟩)
  have hrd10 := rdIn (A' := [cel b_6 23 [.bool ((l.getD k default).dead), .int .i64 (((l.getD k default).key).toInt), .int .i64 (((l.getD k default).value).toInt), .int .i64 (((l.getD k default).seq).toInt)], osl xa xc xs.length 4 23 (xs.flatMap recV), cel b_3 69 [.slice xa xs.length xc], cel b_2 53 [.int .i64 ((R : Nat) : Int), .int .i64 ((m : Nat) : Int), .int .i64 ((S : Nat) : Int), .int .i64 W], cel b_1 84 [.int .i64 ((m : Nat) : Int), .slice a1 n1 c1, .slice a2 n2 c2, .slice a3 n3 c3]]) hs2_5 (oldR hr3 w2_5 hs2_5) (fun hl => ⟨rdBlk hr3 hl, by simp⟩)
  have hkm : k * m ≤ 8 * 4 := Nat.mul_le_mul (by omega) (by omega)
  have hkn : (k + 1) * m = k * m + m := Nat.succ_mul k m
  refine wpS_block ?_
  refine wpS_seq ?_
  refine wpS_region ?_
  refine s_y (v := .agg #[.int .i64 ((m : Nat) : Int), .slice a1 n1 c1, .slice a2 n2 c2, .slice a3 n3 c3]) (y_loadN rfl Try.isAgg84 Try.sizeOf84 (ownN (.t (.t (.t (.t .h)))) rfl)) rfl ?_
  refine s_y (v := .pointer (some ⟨b_6, 3, none⟩)) (y_fieldAddr (o' := 3) rfl Try.underlying23 rfl Try.sizeOf2 (by decide) rfl) rfl ?_
  refine s_y (v := .int .i64 (((l.getD k default).seq).toInt)) (y_load1 rfl Try.isAgg2 (own1 .h rfl)) rfl ?_
  refine s_y (v := .pointer (some ⟨b_6, 1, none⟩)) (y_fieldAddr (o' := 1) rfl Try.underlying23 rfl Try.sizeOf2 (by decide) rfl) rfl ?_
  refine s_y (v := .int .i64 (((l.getD k default).key).toInt)) (y_load1 rfl Try.isAgg2 (own1 .h rfl)) rfl ?_
  refine s_y (v := .pointer (some ⟨b_6, 2, none⟩)) (y_fieldAddr (o' := 2) rfl Try.underlying23 rfl Try.sizeOf2 (by decide) rfl) rfl ?_
  refine s_y (v := .int .i64 (((l.getD k default).value).toInt)) (y_load1 rfl Try.isAgg2 (own1 .h rfl)) rfl ?_
  refine s_y (v := .agg #[.int .i64 (((l.getD k default).key).toInt), .int .i64 (((l.getD k default).value).toInt)]) (y_buildL (m := [(0, .int .i64 (((l.getD k default).key).toInt)), (1, .int .i64 (((l.getD k default).value).toInt))]) (vs := #[.int .i64 (((l.getD k default).key).toInt), .int .i64 (((l.getD k default).value).toInt)]) (evc rfl (evc rfl evn)) (fun w => by kernel_rfl)) rfl ?_
  refine s_e rfl ?_
  refine e_call (f := 83) (args := #[.agg #[.int .i64 ((m : Nat) : Int), .slice a1 n1 c1, .slice a2 n2 c2, .slice a3 n3 c3], .int .i64 (((l.getD k default).seq).toInt), .agg #[.int .i64 (((l.getD k default).key).toInt), .int .i64 (((l.getD k default).value).toInt)]]) (X := Option Addr × Nat) (A := []) (M := [cel b_6 23 [.bool ((l.getD k default).dead), .int .i64 (((l.getD k default).key).toInt), .int .i64 (((l.getD k default).value).toInt), .int .i64 (((l.getD k default).seq).toInt)], osl xa xc xs.length 4 23 (xs.flatMap recV), cel b_3 69 [.slice xa xs.length xc], cel b_2 53 [.int .i64 ((R : Nat) : Int), .int .i64 ((m : Nat) : Int), .int .i64 ((S : Nat) : Int), .int .i64 W], cel b_1 84 [.int .i64 ((m : Nat) : Int), .slice a1 n1 c1, .slice a2 n2 c2, .slice a3 n3 c3]]) (V := slV (mapC (chkB ((m : Nat) : Int) l1 l2 l3) ((m : Nat) : Int) l1 ((l.getD k default).seq) ((l.getD k default).key) ((l.getD k default).value))) (A' := fun x => [slR recV 4 23 (mapC (chkB ((m : Nat) : Int) l1 l2 l3) ((m : Nat) : Int) l1 ((l.getD k default).seq) ((l.getD k default).key) ((l.getD k default).value)) x]) (C := fun _ => True) Try.call83 (ev3 rfl rfl rfl) (.p .h (.p .h (.p .h (.p .h (.p .h .nil))))) (fun w hs => map_c ((m : Nat) : Int) a1 a2 a3 n1 c1 n2 c2 n3 c3 l1 l2 l3 ((l.getD k default).seq) ((l.getD k default).key) ((l.getD k default).value) w hn1 ((hrd8 _) w hs) (by omega) hn2 ((hrd9 _) w hs) (by omega) hn3 ((hrd10 _) w hs) (by omega)) ?_
  rintro ⟨a_11, c_12⟩ -
  have hml14 : (mapC (chkB ((m : Nat) : Int) l1 l2 l3) ((m : Nat) : Int) l1 ((l.getD k default).seq) ((l.getD k default).key) ((l.getD k default).value)).length ≤ 4 := mapC_len
  refine s_y (v := .slice a_11 ((mapC (chkB ((m : Nat) : Int) l1 l2 l3) ((m : Nat) : Int) l1 ((l.getD k default).seq) ((l.getD k default).key) ((l.getD k default).value)).length) c_12) (y_assign rfl) rfl ?_
  have hmm : (mapC (chkB ((m : Nat) : Int) l1 l2 l3) ((m : Nat) : Int) l1 (l.getD k default).seq (l.getD k default).key (l.getD k default).value).length = m := by rw [mapC_lenm hck]; rfl
  refine wpL_nil ?_
  refine thenS_n ?_
  refine wpS_seq ?_
  refine wpS_region ?_
  refine s_y (v := .slice a_11 ((mapC (chkB ((m : Nat) : Int) l1 l2 l3) ((m : Nat) : Int) l1 ((l.getD k default).seq) ((l.getD k default).key) ((l.getD k default).value)).length) c_12) (y_move rfl) rfl ?_
  refine s_y (v := .int .i64 (((mapC (chkB ((m : Nat) : Int) l1 l2 l3) ((m : Nat) : Int) l1 ((l.getD k default).seq) ((l.getD k default).key) ((l.getD k default).value)).length : Nat) : Int)) (y_len (ty' := 0) (at_ := #[]) rfl Try.underlying69) rfl ?_
  refine s_y (v := .int .i64 0) (y_move rfl) rfl ?_
  refine wpL_nil ?_
  refine thenS_n ?_
  refine wpS_block ?_
  refine wpS_loop (fun mez ds σ L => ∃ j : Nat, ∃ ys : List Rec, ∃ ya : Option Addr, ∃ yc : Nat, mez = m - j ∧ (j ≤ m) ∧ (ys.length = k * m + j) ∧ (ys = xs ++ (mpR (chkB ((m : Nat) : Int) l1 l2 l3) ((m : Nat) : Int) l1 (l.getD k default)).take j) ∧ ds = [] ∧ σ 6 = .slice none 0 0 ∧ σ 7 = .pointer (some ⟨b_3, 0, none⟩) ∧ σ 8 = .pointer (some ⟨b_6, 0, none⟩) ∧ σ 26 = .slice a_11 ((mapC (chkB ((m : Nat) : Int) l1 l2 l3) ((m : Nat) : Int) l1 ((l.getD k default).seq) ((l.getD k default).key) ((l.getD k default).value)).length) c_12 ∧ σ 27 = .int .i64 (((mapC (chkB ((m : Nat) : Int) l1 l2 l3) ((m : Nat) : Int) l1 ((l.getD k default).seq) ((l.getD k default).key) ((l.getD k default).value)).length : Nat) : Int) ∧ σ 28 = .int .i64 ((j : Nat) : Int) ∧ Ent L [osl a_11 c_12 ((mapC (chkB ((m : Nat) : Int) l1 l2 l3) ((m : Nat) : Int) l1 ((l.getD k default).seq) ((l.getD k default).key) ((l.getD k default).value)).length) 4 23 ((mapC (chkB ((m : Nat) : Int) l1 l2 l3) ((m : Nat) : Int) l1 ((l.getD k default).seq) ((l.getD k default).key) ((l.getD k default).value)).flatMap recV), cel b_6 23 [.bool ((l.getD k default).dead), .int .i64 (((l.getD k default).key).toInt), .int .i64 (((l.getD k default).value).toInt), .int .i64 (((l.getD k default).seq).toInt)], osl ya yc ys.length 4 23 (ys.flatMap recV), cel b_3 69 [.slice ya ys.length yc], cel b_2 53 [.int .i64 ((R : Nat) : Int), .int .i64 ((m : Nat) : Int), .int .i64 ((S : Nat) : Int), .int .i64 W], cel b_1 84 [.int .i64 ((m : Nat) : Int), .slice a1 n1 c1, .slice a2 n2 c2, .slice a3 n3 c3]]) (m0 := m - 0) ⟨0, xs, xa, xc, rfl, by omega, by omega, (by rw [List.take_zero, List.append_nil]), rfl, rfl, rfl, rfl, rfl, rfl, rfl, .p .h (.p .h (.p .h (.p .h (.p .h (.p .h .nil)))))⟩ ?_
  rintro mez ds σ L ⟨j, ys, ya, yc, hm_15, hf0_15, hf1_15, hf2_15, rfl, h6_15, h7_15, h8_15, h26_15, h27_15, h28_15, hE_15⟩
  refine wpS_ent hE_15 ?_; clear hE_15
  refine wpS_seq ?_
  refine wpS_region ?_
  refine s_y (v := .bool (decide (j < ((mapC (chkB ((m : Nat) : Int) l1 l2 l3) ((m : Nat) : Int) l1 ((l.getD k default).seq) ((l.getD k default).key) ((l.getD k default).value)).length)))) (y_lss (a := ((j : Nat) : Int)) (b := (((mapC (chkB ((m : Nat) : Int) l1 l2 l3) ((m : Nat) : Int) l1 ((l.getD k default).seq) ((l.getD k default).key) ((l.getD k default).value)).length : Nat) : Int)) (c := decide (j < ((mapC (chkB ((m : Nat) : Int) l1 l2 l3) ((m : Nat) : Int) l1 ((l.getD k default).seq) ((l.getD k default).key) ((l.getD k default).value)).length))) h28_15 h27_15 (decide_eq_decide.2 (by omega))) rfl ?_
  refine wpL_nil ?_
  refine thenS_n ?_
  refine wpS_seq ?_
  refine wpS_cond (t := decide (j < ((mapC (chkB ((m : Nat) : Int) l1 l2 l3) ((m : Nat) : Int) l1 ((l.getD k default).seq) ((l.getD k default).key) ((l.getD k default).value)).length))) rfl (fun b16 => ?_) (fun b16 => ?_)
  ·
   have p16 := of_decide_eq_true b16
   refine wpS_skip ?_
   refine thenS_n ?_
   refine wpS_seq ?_
   refine wpS_block ?_
   refine wpS_seq ?_
   refine wpS_region ?_
   refine s_y (v := .pointer (some ⟨aB a_11, aO a_11 + j * 4, none⟩)) (y_idx (o := j * 4) h26_15 h28_15 Try.underlying69 Try.sizeOf23 (oslR .h) (fl_len recV_len _) (by decide) (by omega) (by omega) (by omega)) rfl ?_
   refine s_y (v := .agg #[.bool (((mapC (chkB ((m : Nat) : Int) l1 l2 l3) ((m : Nat) : Int) l1 ((l.getD k default).seq) ((l.getD k default).key) ((l.getD k default).value)).getD j default).dead), .int .i64 ((((mapC (chkB ((m : Nat) : Int) l1 l2 l3) ((m : Nat) : Int) l1 ((l.getD k default).seq) ((l.getD k default).key) ((l.getD k default).value)).getD j default).key).toInt), .int .i64 ((((mapC (chkB ((m : Nat) : Int) l1 l2 l3) ((m : Nat) : Int) l1 ((l.getD k default).seq) ((l.getD k default).key) ((l.getD k default).value)).getD j default).value).toInt), .int .i64 ((((mapC (chkB ((m : Nat) : Int) l1 l2 l3) ((m : Nat) : Int) l1 ((l.getD k default).seq) ((l.getD k default).key) ((l.getD k default).value)).getD j default).seq).toInt)]) (y_loadN (vs := recV ((mapC (chkB ((m : Nat) : Int) l1 l2 l3) ((m : Nat) : Int) l1 ((l.getD k default).seq) ((l.getD k default).key) ((l.getD k default).value)).getD j default)) rfl Try.isAgg23 Try.sizeOf23 (rdN (oslR .h) (fl_getN recV_len (mapC (chkB ((m : Nat) : Int) l1 l2 l3) ((m : Nat) : Int) l1 ((l.getD k default).seq) ((l.getD k default).key) ((l.getD k default).value)) j (by first | omega | (simp only [List.length_set, List.length_take, List.length_drop]; done) | (simp only [List.length_set, List.length_take, List.length_drop]; omega))))) rfl ?_
   refine s_e rfl ?_
   refine e_alloc (l := [.bool false, .int .i64 0, .int .i64 0, .int .i64 0]) Try.zeroValue23 rfl ?_
   intro b_17
   refine s_e0 ?_
   refine e_store (vs := [.bool (((mapC (chkB ((m : Nat) : Int) l1 l2 l3) ((m : Nat) : Int) l1 ((l.getD k default).seq) ((l.getD k default).key) ((l.getD k default).value)).getD j default).dead), .int .i64 ((((mapC (chkB ((m : Nat) : Int) l1 l2 l3) ((m : Nat) : Int) l1 ((l.getD k default).seq) ((l.getD k default).key) ((l.getD k default).value)).getD j default).key).toInt), .int .i64 ((((mapC (chkB ((m : Nat) : Int) l1 l2 l3) ((m : Nat) : Int) l1 ((l.getD k default).seq) ((l.getD k default).key) ((l.getD k default).value)).getD j default).value).toInt), .int .i64 ((((mapC (chkB ((m : Nat) : Int) l1 l2 l3) ((m : Nat) : Int) l1 ((l.getD k default).seq) ((l.getD k default).key) ((l.getD k default).value)).getD j default).seq).toInt)]) (l' := [.bool (((mapC (chkB ((m : Nat) : Int) l1 l2 l3) ((m : Nat) : Int) l1 ((l.getD k default).seq) ((l.getD k default).key) ((l.getD k default).value)).getD j default).dead), .int .i64 ((((mapC (chkB ((m : Nat) : Int) l1 l2 l3) ((m : Nat) : Int) l1 ((l.getD k default).seq) ((l.getD k default).key) ((l.getD k default).value)).getD j default).key).toInt), .int .i64 ((((mapC (chkB ((m : Nat) : Int) l1 l2 l3) ((m : Nat) : Int) l1 ((l.getD k default).seq) ((l.getD k default).key) ((l.getD k default).value)).getD j default).value).toInt), .int .i64 ((((mapC (chkB ((m : Nat) : Int) l1 l2 l3) ((m : Nat) : Int) l1 ((l.getD k default).seq) ((l.getD k default).key) ((l.getD k default).value)).getD j default).seq).toInt)]) rfl rfl rfl rfl Try.sizeOf23 .h (Nat.le_of_ble_eq_true rfl) rfl ?_
   refine wpL_nil ?_
   refine thenS_n ?_
   refine wpS_anyL [cel b_17 23 [.bool (((mapC (chkB ((m : Nat) : Int) l1 l2 l3) ((m : Nat) : Int) l1 ((l.getD k default).seq) ((l.getD k default).key) ((l.getD k default).value)).getD j default).dead), .int .i64 ((((mapC (chkB ((m : Nat) : Int) l1 l2 l3) ((m : Nat) : Int) l1 ((l.getD k default).seq) ((l.getD k default).key) ((l.getD k default).value)).getD j default).key).toInt), .int .i64 ((((mapC (chkB ((m : Nat) : Int) l1 l2 l3) ((m : Nat) : Int) l1 ((l.getD k default).seq) ((l.getD k default).key) ((l.getD k default).value)).getD j default).value).toInt), .int .i64 ((((mapC (chkB ((m : Nat) : Int) l1 l2 l3) ((m : Nat) : Int) l1 ((l.getD k default).seq) ((l.getD k default).key) ((l.getD k default).value)).getD j default).seq).toInt)], cel b_6 23 [.bool ((l.getD k default).dead), .int .i64 (((l.getD k default).key).toInt), .int .i64 (((l.getD k default).value).toInt), .int .i64 (((l.getD k default).seq).toInt)], cel b_3 69 [.slice ya ys.length yc]] [9] (by kernel_rfl) ?_
   refine anyS_take (i := 0) rfl (by kernel_rfl) (by kernel_rfl) (by kernel_rfl) (by kernel_rfl) (Yq.of (v := .slice ya ys.length yc) (y_load1 h7_15 Try.isAgg69 (own1 (.t (.t .h)) rfl)) rfl) (.p .h (.p (.t .h) (.p (.t (.t .h)) .nil))) ?_
   refine anyS_take (i := 1) rfl (by kernel_rfl) (by kernel_rfl) (by kernel_rfl) (by kernel_rfl) (Yq.of (v := .pointer (some ⟨b_6, 0, none⟩)) (y_fieldAddr (o' := 0) h8_15 Try.underlying23 rfl Try.sizeOf4 (by decide) rfl) rfl) (.p .h (.p (.t .h) (.p (.t (.t .h)) .nil))) ?_
   refine anyS_take (i := 2) rfl (by kernel_rfl) (by kernel_rfl) (by kernel_rfl) (by kernel_rfl) (Yq.of (v := .bool ((l.getD k default).dead)) (y_load1 rfl Try.isAgg4 (own1 (.t .h) rfl)) rfl) (.p .h (.p (.t .h) (.p (.t (.t .h)) .nil))) ?_
   refine anyS_take (i := 3) rfl (by kernel_rfl) (by kernel_rfl) (by kernel_rfl) (by kernel_rfl) (Yq.of (v := .int .u64 ((b64 ((l.getD k default).dead)).toNat)) (y_call (args := #[.bool ((l.getD k default).dead)]) Try.call243 (ev1 rfl) (fun w hs => pbit_c ((l.getD k default).dead) w)) rfl) (.p .h (.p (.t .h) (.p (.t (.t .h)) .nil))) ?_
   refine anyS_take (i := 4) rfl (by kernel_rfl) (by kernel_rfl) (by kernel_rfl) (by kernel_rfl) (Yq.of (v := .agg #[.bool deadR.dead, .int .i64 deadR.key.toInt, .int .i64 deadR.value.toInt, .int .i64 deadR.seq.toInt]) (y_call (args := #[]) Try.call49 ev0 (fun w hs => dead_c w)) rfl) (.p .h (.p (.t .h) (.p (.t (.t .h)) .nil))) ?_
   refine anyS_take (i := 5) rfl (by kernel_rfl) (by kernel_rfl) (by kernel_rfl) (by kernel_rfl) (Yq.of (v := .agg #[.bool (((mapC (chkB ((m : Nat) : Int) l1 l2 l3) ((m : Nat) : Int) l1 ((l.getD k default).seq) ((l.getD k default).key) ((l.getD k default).value)).getD j default).dead), .int .i64 ((((mapC (chkB ((m : Nat) : Int) l1 l2 l3) ((m : Nat) : Int) l1 ((l.getD k default).seq) ((l.getD k default).key) ((l.getD k default).value)).getD j default).key).toInt), .int .i64 ((((mapC (chkB ((m : Nat) : Int) l1 l2 l3) ((m : Nat) : Int) l1 ((l.getD k default).seq) ((l.getD k default).key) ((l.getD k default).value)).getD j default).value).toInt), .int .i64 ((((mapC (chkB ((m : Nat) : Int) l1 l2 l3) ((m : Nat) : Int) l1 ((l.getD k default).seq) ((l.getD k default).key) ((l.getD k default).value)).getD j default).seq).toInt)]) (y_loadN rfl Try.isAgg23 Try.sizeOf23 (ownN .h rfl)) rfl) (.p .h (.p (.t .h) (.p (.t (.t .h)) .nil))) ?_
   refine anyS_take (i := 6) rfl (by kernel_rfl) (by kernel_rfl) (by kernel_rfl) (by kernel_rfl) (Yq.of (v := .agg #[.bool ((pickR (b64 ((l.getD k default).dead)) deadR ((mapC (chkB ((m : Nat) : Int) l1 l2 l3) ((m : Nat) : Int) l1 ((l.getD k default).seq) ((l.getD k default).key) ((l.getD k default).value)).getD j default)).dead), .int .i64 (((pickR (b64 ((l.getD k default).dead)) deadR ((mapC (chkB ((m : Nat) : Int) l1 l2 l3) ((m : Nat) : Int) l1 ((l.getD k default).seq) ((l.getD k default).key) ((l.getD k default).value)).getD j default)).key).toInt), .int .i64 (((pickR (b64 ((l.getD k default).dead)) deadR ((mapC (chkB ((m : Nat) : Int) l1 l2 l3) ((m : Nat) : Int) l1 ((l.getD k default).seq) ((l.getD k default).key) ((l.getD k default).value)).getD j default)).value).toInt), .int .i64 (((pickR (b64 ((l.getD k default).dead)) deadR ((mapC (chkB ((m : Nat) : Int) l1 l2 l3) ((m : Nat) : Int) l1 ((l.getD k default).seq) ((l.getD k default).key) ((l.getD k default).value)).getD j default)).seq).toInt)]) (y_call (args := #[.int .u64 ((b64 ((l.getD k default).dead)).toNat), .agg #[.bool deadR.dead, .int .i64 deadR.key.toInt, .int .i64 deadR.value.toInt, .int .i64 deadR.seq.toInt], .agg #[.bool (((mapC (chkB ((m : Nat) : Int) l1 l2 l3) ((m : Nat) : Int) l1 ((l.getD k default).seq) ((l.getD k default).key) ((l.getD k default).value)).getD j default).dead), .int .i64 ((((mapC (chkB ((m : Nat) : Int) l1 l2 l3) ((m : Nat) : Int) l1 ((l.getD k default).seq) ((l.getD k default).key) ((l.getD k default).value)).getD j default).key).toInt), .int .i64 ((((mapC (chkB ((m : Nat) : Int) l1 l2 l3) ((m : Nat) : Int) l1 ((l.getD k default).seq) ((l.getD k default).key) ((l.getD k default).value)).getD j default).value).toInt), .int .i64 ((((mapC (chkB ((m : Nat) : Int) l1 l2 l3) ((m : Nat) : Int) l1 ((l.getD k default).seq) ((l.getD k default).key) ((l.getD k default).value)).getD j default).seq).toInt)]]) Try.call47 (ev3 rfl rfl rfl) (fun w hs => pick_c (b64 ((l.getD k default).dead)) deadR ((mapC (chkB ((m : Nat) : Int) l1 l2 l3) ((m : Nat) : Int) l1 ((l.getD k default).seq) ((l.getD k default).key) ((l.getD k default).value)).getD j default) w)) rfl) (.p .h (.p (.t .h) (.p (.t (.t .h)) .nil))) ?_
   refine anyS_all (rs := [7]) (by kernel_rfl) (by simp) ?_
   intro i hi; obtain rfl := List.mem_singleton.1 hi; clear hi
   refine opS_0 rfl rfl ?_
   refine e_bsliceL (e := 23) (m := [(0, .agg #[.bool ((pickR (b64 ((l.getD k default).dead)) deadR ((mapC (chkB ((m : Nat) : Int) l1 l2 l3) ((m : Nat) : Int) l1 ((l.getD k default).seq) ((l.getD k default).key) ((l.getD k default).value)).getD j default)).dead), .int .i64 (((pickR (b64 ((l.getD k default).dead)) deadR ((mapC (chkB ((m : Nat) : Int) l1 l2 l3) ((m : Nat) : Int) l1 ((l.getD k default).seq) ((l.getD k default).key) ((l.getD k default).value)).getD j default)).key).toInt), .int .i64 (((pickR (b64 ((l.getD k default).dead)) deadR ((mapC (chkB ((m : Nat) : Int) l1 l2 l3) ((m : Nat) : Int) l1 ((l.getD k default).seq) ((l.getD k default).key) ((l.getD k default).value)).getD j default)).value).toInt), .int .i64 (((pickR (b64 ((l.getD k default).dead)) deadR ((mapC (chkB ((m : Nat) : Int) l1 l2 l3) ((m : Nat) : Int) l1 ((l.getD k default).seq) ((l.getD k default).key) ((l.getD k default).value)).getD j default)).seq).toInt)])]) (l := [.bool ((pickR (b64 ((l.getD k default).dead)) deadR ((mapC (chkB ((m : Nat) : Int) l1 l2 l3) ((m : Nat) : Int) l1 ((l.getD k default).seq) ((l.getD k default).key) ((l.getD k default).value)).getD j default)).dead), .int .i64 (((pickR (b64 ((l.getD k default).dead)) deadR ((mapC (chkB ((m : Nat) : Int) l1 l2 l3) ((m : Nat) : Int) l1 ((l.getD k default).seq) ((l.getD k default).key) ((l.getD k default).value)).getD j default)).key).toInt), .int .i64 (((pickR (b64 ((l.getD k default).dead)) deadR ((mapC (chkB ((m : Nat) : Int) l1 l2 l3) ((m : Nat) : Int) l1 ((l.getD k default).seq) ((l.getD k default).key) ((l.getD k default).value)).getD j default)).value).toInt), .int .i64 (((pickR (b64 ((l.getD k default).dead)) deadR ((mapC (chkB ((m : Nat) : Int) l1 l2 l3) ((m : Nat) : Int) l1 ((l.getD k default).seq) ((l.getD k default).key) ((l.getD k default).value)).getD j default)).seq).toInt)]) (evc rfl evn) (fun w => by kernel_rfl) ?_
   intro b_18
   refine ⟨.inr (.p (.t .h) (.p (.t (.t .h)) (.p (.t (.t (.t .h))) .nil))), ?_⟩
   refine anyS_all (rs := [8]) (by kernel_rfl) (by simp) ?_
   intro i hi; obtain rfl := List.mem_singleton.1 hi; clear hi
   refine opS_0 rfl rfl ?_
   refine e_appendL (enc := recV) (xs := (ys : List Rec)) (ns := ([(pickR (b64 ((l.getD k default).dead)) deadR ((mapC (chkB ((m : Nat) : Int) l1 l2 l3) ((m : Nat) : Int) l1 ((l.getD k default).seq) ((l.getD k default).key) ((l.getD k default).value)).getD j default))] : List Rec)) (zs := (ys ++ [(pickR (b64 ((l.getD k default).dead)) deadR ((mapC (chkB ((m : Nat) : Int) l1 l2 l3) ((m : Nat) : Int) l1 ((l.getD k default).seq) ((l.getD k default).key) ((l.getD k default).value)).getD j default))])) (bytes := 32) recV_len recV_one Try.underlying69 (i := Try.t23) rfl rfl rfl rfl rfl (by decide) rfl rfl (by first | rfl | omega) (by first | rfl | omega) (.t (.t (.t (.t .h)))) (fun w hs => celR .h w hs) (by first | rfl | simp) (by (try simp only [List.length_append, List.length_singleton]); omega) (by (try simp only [List.length_append, List.length_singleton]); omega) ?_
   intro a_19 c_20
   refine ⟨.inr (.p (.t (.t .h)) (.p (.t (.t (.t .h))) (.p (.t (.t (.t .h))) .nil))), ?_⟩
   refine anyS_all (rs := [9]) (by kernel_rfl) (by simp) ?_
   intro i hi; obtain rfl := List.mem_singleton.1 hi; clear hi
   refine opS_0 rfl rfl ?_
   refine e_store (vs := [.slice a_19 ((ys ++ [(pickR (b64 ((l.getD k default).dead)) deadR ((mapC (chkB ((m : Nat) : Int) l1 l2 l3) ((m : Nat) : Int) l1 ((l.getD k default).seq) ((l.getD k default).key) ((l.getD k default).value)).getD j default))]).length) c_20]) (l' := [.slice a_19 ((ys ++ [(pickR (b64 ((l.getD k default).dead)) deadR ((mapC (chkB ((m : Nat) : Int) l1 l2 l3) ((m : Nat) : Int) l1 ((l.getD k default).seq) ((l.getD k default).key) ((l.getD k default).value)).getD j default))]).length) c_20]) h7_15 rfl rfl rfl Try.sizeOf69 (.t (.t (.t (.t (.t .h))))) (Nat.le_of_ble_eq_true rfl) rfl ?_
   refine ⟨.inl (by simp), ?_⟩
   refine anyS_done (by kernel_rfl) ?_
   refine blockS_n ?_
   refine thenS_n ?_
   refine wpS_region ?_
   refine s_y (v := .int .i64 (((j + 1) : Nat) : Int)) (y_add (a := ((j : Nat) : Int)) (b := 1) h28_15 rfl (wI (by omega) (by omega) (by omega))) rfl ?_
   refine s_y (v := .int .i64 (((j + 1) : Nat) : Int)) (y_move rfl) rfl ?_
   refine wpL_nil ?_
   refine thenS_n ?_
   exact ⟨_, by omega, ⟨(j + 1), (ys ++ [(pickR (b64 ((l.getD k default).dead)) deadR ((mapC (chkB ((m : Nat) : Int) l1 l2 l3) ((m : Nat) : Int) l1 ((l.getD k default).seq) ((l.getD k default).key) ((l.getD k default).value)).getD j default))]), a_19, c_20, rfl, by omega, (by rw [List.length_append, List.length_singleton]; omega), (mp_step (by assumption) (by omega)), rfl, h6_15, h7_15, h8_15, h26_15, h27_15, rfl, .p (.t (.t (.t (.t .h)))) (.p (.t (.t (.t (.t .h)))) (.p (.t .h) (.p .h (.p (.t (.t .h)) (.p (.t (.t .h)) .nil)))))⟩⟩
  ·
   have p16 := of_decide_eq_false b16
   refine wpS_exit ?_
   refine thenS_x ?_
   refine thenS_x ?_
   refine blockS_h ?_
   refine blockS_n ?_
   exact rnd_n ⟨[osl ya yc ys.length 4 23 (ys.flatMap recV), cel b_3 69 [.slice ya ys.length yc], cel b_2 53 [.int .i64 ((R : Nat) : Int), .int .i64 ((m : Nat) : Int), .int .i64 ((S : Nat) : Int), .int .i64 W], cel b_1 84 [.int .i64 ((m : Nat) : Int), .slice a1 n1 c1, .slice a2 n2 c2, .slice a3 n3 c3]], .p (.t (.t .h)) (.p (.t (.t .h)) (.p (.t (.t .h)) (.p (.t (.t .h)) .nil))), ⟨ys, ya, yc, (by omega), (mp_all (by assumption) (by omega) (by assumption) (by omega)), rfl⟩⟩
 ·
  rintro d_5 A' ⟨xs, xa, xc, hf0_5, hf1_5, rfl⟩
  refine blockS_n ?_
  refine thenS_n ?_
  refine wpS_seq ?_
  refine wpS_region ?_
  refine s_e rfl ?_
  refine e_alloc (l := [.slice none 0 0]) Try.zeroValue80 rfl ?_
  intro b_21
  refine wpL_nil ?_
  refine thenS_n ?_
  refine wpS_seq ?_
  refine wpS_seq ?_
  refine wpS_region ?_
  refine s_y (v := .slice xa xs.length xc) (y_load1 rfl Try.isAgg69 (own1 (.t (.t (.t .h))) rfl)) rfl ?_
  refine s_y (v := .pointer (some ⟨b_2, 2, none⟩)) (y_fieldAddr (o' := 2) rfl Try.underlying53 rfl Try.sizeOf3 (by decide) rfl) rfl ?_
  refine s_y (v := .int .i64 ((S : Nat) : Int)) (y_load1 rfl Try.isAgg3 (own1 (.t (.t (.t (.t .h)))) rfl)) rfl ?_
  refine s_e rfl ?_
  refine e_call (f := 244) (args := #[.slice xa xs.length xc, .int .i64 ((S : Nat) : Int)]) (X := Nat × Nat) (A := []) (M := [cel b_21 80 [.slice none 0 0], dfr d_5, osl xa xc xs.length 4 23 (xs.flatMap recV), cel b_3 69 [.slice xa xs.length xc], cel b_2 53 [.int .i64 ((R : Nat) : Int), .int .i64 ((m : Nat) : Int), .int .i64 ((S : Nat) : Int), .int .i64 W], cel b_1 84 [.int .i64 ((m : Nat) : Int), .slice a1 n1 c1, .slice a2 n2 c2, .slice a3 n3 c3], cel b_4 69 [.slice ga S gc]]) (V := fun x : Nat × Nat => .func (.func 246) #[] #[.pointer (some ⟨x.1, 0, none⟩), .pointer (some ⟨x.2, 0, none⟩)]) (A' := fun x : Nat × Nat => [cel x.1 69 [.slice xa xs.length xc], cel x.2 3 [.int .i64 ((S : Nat) : Int)]]) (C := fun _ => True) Try.call244 (ev2 rfl rfl) (.p .h (.p .h (.p .h (.p .h (.p .h (.p .h (.p .h .nil))))))) (fun w hs => chunkR_c xa xs.length xc S w (by omega) (by omega)) ?_
  rintro ⟨b_22, b_23⟩ -
  refine wpL_nil ?_
  refine thenS_n ?_
  refine wpS_block ?_
  refine wpS_cap (.t (.t (.t (.t .h)))) (fun hcap => ?_)
  refine wpS_nil0 1 69 ?_
  refine wpS_sh fam_nil ?_
  refine wpS_rangeFunc (f := 246) (cap := #[.pointer (some ⟨b_22, 0, none⟩), .pointer (some ⟨b_23, 0, none⟩)]) (enc := fun k => #[.slice (subA xa (S * k + S) (S * k) 4) S S]) (N := m) (rd := fun y => y = b_22 ∨ y = b_23 ∨ 0 < xs.length ∧ y = aB xa) (A := [fam ([]) ([]), osl none 0 0 1 69 (([] : List SlH).flatMap slhV), cel b_21 80 [.slice none 0 0], cel b_3 69 [.slice xa xs.length xc], cel b_2 53 [.int .i64 ((R : Nat) : Int), .int .i64 ((m : Nat) : Int), .int .i64 ((S : Nat) : Int), .int .i64 W], cel b_1 84 [.int .i64 ((m : Nat) : Int), .slice a1 n1 c1, .slice a2 n2 c2, .slice a3 n3 c3], cel b_4 69 [.slice ga S gc]]) (M := [cel b_22 69 [.slice xa xs.length xc], cel b_23 3 [.int .i64 ((S : Nat) : Int)], osl xa xc xs.length 4 23 (xs.flatMap recV), dfr d_5]) (fun k A => ∃ hd : List SlH, ∃ bs : List (List Rec), ∃ oa : Option Addr, ∃ oc : Nat, (hd.length = k) ∧ (bs.length = k) ∧ (∀ i, i < k → (hd.getD i default).n = S) ∧ (bs = cutS S k xs) ∧ A = [fam hd bs, osl oa oc hd.length 1 69 (hd.flatMap slhV), cel b_21 80 [.slice oa hd.length oc], cel b_3 69 [.slice xa xs.length xc], cel b_2 53 [.int .i64 ((R : Nat) : Int), .int .i64 ((m : Nat) : Int), .int .i64 ((S : Nat) : Int), .int .i64 W], cel b_1 84 [.int .i64 ((m : Nat) : Int), .slice a1 n1 c1, .slice a2 n2 c2, .slice a3 n3 c3], cel b_4 69 [.slice ga S gc]]) (fun k e A => False) rfl Try.call246 (by kernel_rfl) (fun _ => rfl) (.p .h (.p .h (.p (.t (.t .h)) (.p (.t (.t (.t (.t .h)))) (.p (.t (.t (.t (.t .h)))) (.p (.t (.t (.t (.t .h)))) (.p (.t (.t (.t (.t .h)))) (.p .h (.p .h (.p (.t .h) (.p .h .nil))))))))))) ⟨[], [], none, 0, rfl, rfl, (fun i hi => by omega), rfl, rfl⟩ (fun w hs => (chunkR_at b_22 b_23 xa xs.length xc xs S m w (own1 (.t (.t (.t (.t (.t (.t (.t .h))))))) rfl w hs) (own1 (.t (.t (.t (.t (.t (.t (.t (.t .h)))))))) rfl w hs) rfl (oslR (.t (.t (.t (.t (.t (.t (.t (.t (.t .h))))))))) w hs) (by assumption) (by omega) (by omega)).it) (fun w hs b hb => by rcases hb with rfl | rfl | ⟨hl, rfl⟩; exact apM (A := [fam ([]) ([]), osl none 0 0 1 69 (([] : List SlH).flatMap slhV), cel b_21 80 [.slice none 0 0], cel b_3 69 [.slice xa xs.length xc], cel b_2 53 [.int .i64 ((R : Nat) : Int), .int .i64 ((m : Nat) : Int), .int .i64 ((S : Nat) : Int), .int .i64 W], cel b_1 84 [.int .i64 ((m : Nat) : Int), .slice a1 n1 c1, .slice a2 n2 c2, .slice a3 n3 c3], cel b_4 69 [.slice ga S gc]]) hs .h (by simp [cel, blk]); exact apM (A := [fam ([]) ([]), osl none 0 0 1 69 (([] : List SlH).flatMap slhV), cel b_21 80 [.slice none 0 0], cel b_3 69 [.slice xa xs.length xc], cel b_2 53 [.int .i64 ((R : Nat) : Int), .int .i64 ((m : Nat) : Int), .int .i64 ((S : Nat) : Int), .int .i64 W], cel b_1 84 [.int .i64 ((m : Nat) : Int), .slice a1 n1 c1, .slice a2 n2 c2, .slice a3 n3 c3], cel b_4 69 [.slice ga S gc]]) hs (.t .h) (by simp [cel, blk]); exact apM (A := [fam ([]) ([]), osl none 0 0 1 69 (([] : List SlH).flatMap slhV), cel b_21 80 [.slice none 0 0], cel b_3 69 [.slice xa xs.length xc], cel b_2 53 [.int .i64 ((R : Nat) : Int), .int .i64 ((m : Nat) : Int), .int .i64 ((S : Nat) : Int), .int .i64 W], cel b_1 84 [.int .i64 ((m : Nat) : Int), .slice a1 n1 c1, .slice a2 n2 c2, .slice a3 n3 c3], cel b_4 69 [.slice ga S gc]]) hs (.t (.t .h)) (osl_blk (hs.ok _ (List.mem_append_right _ ((Pick.perm (show Pick [cel b_22 69 [.slice xa xs.length xc], cel b_23 3 [.int .i64 ((S : Nat) : Int)], osl xa xc xs.length 4 23 (xs.flatMap recV), dfr d_5] _ _ from (.t (.t .h)))).mem_iff.2 List.mem_cons_self))) (fl_pos recV_len (by decide) hl))) ?_ ?_ ?_
  ·
   rintro k A' hk_24 ⟨hd, bs, oa, oc, hf0_24, hf1_24, hf2_24, hf3_24, rfl⟩ w_24 l_24 hs_24
   refine wpS_region ?_
   refine s_y (v := .slice (subA xa (S * k + S) (S * k) 4) S S) (y_assign rfl) rfl ?_
   refine wpL_nil ?_
   refine asg_n fun w2_24 hs2_24 => ?_
   have hrd25 := rdIn (A' := [fam hd bs, osl oa oc hd.length 1 69 (hd.flatMap slhV), cel b_21 80 [.slice oa hd.length oc], cel b_3 69 [.slice xa xs.length xc], cel b_2 53 [.int .i64 ((R : Nat) : Int), .int .i64 ((m : Nat) : Int), .int .i64 ((S : Nat) : Int), .int .i64 W], cel b_1 84 [.int .i64 ((m : Nat) : Int), .slice a1 n1 c1, .slice a2 n2 c2, .slice a3 n3 c3], cel b_4 69 [.slice ga S gc]]) hs2_24 (oldR hr w2_24 hs2_24) (fun hl => ⟨rdBlk hr hl, by simp⟩)
   have hrd26 := rdIn (A' := [fam hd bs, osl oa oc hd.length 1 69 (hd.flatMap slhV), cel b_21 80 [.slice oa hd.length oc], cel b_3 69 [.slice xa xs.length xc], cel b_2 53 [.int .i64 ((R : Nat) : Int), .int .i64 ((m : Nat) : Int), .int .i64 ((S : Nat) : Int), .int .i64 W], cel b_1 84 [.int .i64 ((m : Nat) : Int), .slice a1 n1 c1, .slice a2 n2 c2, .slice a3 n3 c3], cel b_4 69 [.slice ga S gc]]) hs2_24 (oldR hr1 w2_24 hs2_24) (fun hl => ⟨rdBlk hr1 hl, by simp⟩)
   have hrd27 := rdIn (A' := [fam hd bs, osl oa oc hd.length 1 69 (hd.flatMap slhV), cel b_21 80 [.slice oa hd.length oc], cel b_3 69 [.slice xa xs.length xc], cel b_2 53 [.int .i64 ((R : Nat) : Int), .int .i64 ((m : Nat) : Int), .int .i64 ((S : Nat) : Int), .int .i64 W], cel b_1 84 [.int .i64 ((m : Nat) : Int), .slice a1 n1 c1, .slice a2 n2 c2, .slice a3 n3 c3], cel b_4 69 [.slice ga S gc]]) hs2_24 (oldR hr2 w2_24 hs2_24) (fun hl => ⟨rdBlk hr2 hl, by simp⟩)
   have hrd28 := rdIn (A' := [fam hd bs, osl oa oc hd.length 1 69 (hd.flatMap slhV), cel b_21 80 [.slice oa hd.length oc], cel b_3 69 [.slice xa xs.length xc], cel b_2 53 [.int .i64 ((R : Nat) : Int), .int .i64 ((m : Nat) : Int), .int .i64 ((S : Nat) : Int), .int .i64 W], cel b_1 84 [.int .i64 ((m : Nat) : Int), .slice a1 n1 c1, .slice a2 n2 c2, .slice a3 n3 c3], cel b_4 69 [.slice ga S gc]]) hs2_24 (oldR hr3 w2_24 hs2_24) (fun hl => ⟨rdBlk hr3 hl, by simp⟩)
   have hkd29 := fun L' => oldRD' (L := L') (oslR (.t (.t (.t (.t (.t (.t (.t (.t (.t .h))))))))) w2_24 hs2_24) (fun hl => (show _ ∧ _ from apM (A := [fam hd bs, osl oa oc hd.length 1 69 (hd.flatMap slhV), cel b_21 80 [.slice oa hd.length oc], cel b_3 69 [.slice xa xs.length xc], cel b_2 53 [.int .i64 ((R : Nat) : Int), .int .i64 ((m : Nat) : Int), .int .i64 ((S : Nat) : Int), .int .i64 W], cel b_1 84 [.int .i64 ((m : Nat) : Int), .slice a1 n1 c1, .slice a2 n2 c2, .slice a3 n3 c3], cel b_4 69 [.slice ga S gc]]) hs2_24 (.t (.t .h)) (osl_blk (hs2_24.ok _ (List.mem_append_right _ ((Pick.perm (show Pick [cel b_22 69 [.slice xa xs.length xc], cel b_23 3 [.int .i64 ((S : Nat) : Int)], osl xa xc xs.length 4 23 (xs.flatMap recV), dfr d_5] _ _ from (.t (.t .h)))).mem_iff.2 List.mem_cons_self))) (fl_pos recV_len (by decide) (fl_pos' recV_len hl)))).2)
   have hch30 := fun L' => rdsChunk (lo := S * k) (q := S) recV_len (oldRD' (L := L') (oslR (.t (.t (.t (.t (.t (.t (.t (.t (.t .h))))))))) w2_24 hs2_24) (fun hl => (show _ ∧ _ from apM (A := [fam hd bs, osl oa oc hd.length 1 69 (hd.flatMap slhV), cel b_21 80 [.slice oa hd.length oc], cel b_3 69 [.slice xa xs.length xc], cel b_2 53 [.int .i64 ((R : Nat) : Int), .int .i64 ((m : Nat) : Int), .int .i64 ((S : Nat) : Int), .int .i64 W], cel b_1 84 [.int .i64 ((m : Nat) : Int), .slice a1 n1 c1, .slice a2 n2 c2, .slice a3 n3 c3], cel b_4 69 [.slice ga S gc]]) hs2_24 (.t (.t .h)) (osl_blk (hs2_24.ok _ (List.mem_append_right _ ((Pick.perm (show Pick [cel b_22 69 [.slice xa xs.length xc], cel b_23 3 [.int .i64 ((S : Nat) : Int)], osl xa xc xs.length 4 23 (xs.flatMap recV), dfr d_5] _ _ from (.t (.t .h)))).mem_iff.2 List.mem_cons_self))) (fl_pos recV_len (by decide) (fl_pos' recV_len hl)))).2))
   have hcl_24 : ((xs.drop (S * k)).take S).length = S := by rw [List.length_take, List.length_drop]; exact chunk_len (m := m) (by omega) (by omega)
   refine wpS_block ?_
   refine wpS_anyL [cel b_21 80 [.slice oa hd.length oc]] [5] (by kernel_rfl) ?_
   refine anyS_take (i := 0) rfl (by kernel_rfl) (by kernel_rfl) (by kernel_rfl) (by kernel_rfl) (Yq.of (v := .slice oa hd.length oc) (y_load1 rfl Try.isAgg80 (own1 .h rfl)) rfl) (.p (.t (.t .h)) .nil) ?_
   refine anyS_take (i := 1) rfl (by kernel_rfl) (by kernel_rfl) (by kernel_rfl) (by kernel_rfl) (Yq.of (v := .slice (subA xa (S * k + S) (S * k) 4) S S) (y_move rfl) rfl) (.p (.t (.t .h)) .nil) ?_
   refine anyS_all (rs := [2]) (by kernel_rfl) (by simp) ?_
   intro i hi; obtain rfl := List.mem_singleton.1 hi; clear hi
   refine opS_0 rfl rfl ?_
   refine e_call (f := 74) (args := #[.slice (subA xa (S * k + S) (S * k) 4) S S, .bool true]) (X := Option Addr × Nat) (A := []) (M := [fam hd bs, osl oa oc hd.length 1 69 (hd.flatMap slhV), cel b_21 80 [.slice oa hd.length oc], cel b_3 69 [.slice xa xs.length xc], cel b_2 53 [.int .i64 ((R : Nat) : Int), .int .i64 ((m : Nat) : Int), .int .i64 ((S : Nat) : Int), .int .i64 W], cel b_1 84 [.int .i64 ((m : Nat) : Int), .slice a1 n1 c1, .slice a2 n2 c2, .slice a3 n3 c3], cel b_4 69 [.slice ga S gc]]) (V := slV (msort true ((xs.drop (S * k)).take S))) (A' := fun x => [slR recV 4 23 (msort true ((xs.drop (S * k)).take S)) x]) (C := fun x => (msort true ((xs.drop (S * k)).take S)).length ≤ x.2) Try.call74 (ev2 rfl rfl) (.p .h (.p .h (.p .h (.p .h (.p .h (.p .h (.p .h .nil))))))) (fun w hs => (sort_c (subA xa (S * k + S) (S * k) 4) S S ((xs.drop (S * k)).take S) true w hcl_24 ((hch30 _) w hs) (by omega)).cap) ?_
   rintro ⟨a_31, c_32⟩ hc33; replace hc33 : (msort true ((xs.drop (S * k)).take S)).length ≤ c_32 := hc33
   refine ⟨.inr (.p (.t (.t (.t .h))) .nil), ?_⟩
   refine anyS_all (rs := [3]) (by kernel_rfl) (by simp) ?_
   intro i hi; obtain rfl := List.mem_singleton.1 hi; clear hi
   refine opS_0 rfl rfl ?_
   refine e_bsliceL (e := 69) (m := [(0, .slice a_31 ((msort true ((xs.drop (S * k)).take S)).length) c_32)]) (l := [.slice a_31 ((msort true ((xs.drop (S * k)).take S)).length) c_32]) (evc rfl evn) (fun w => by kernel_rfl) ?_
   intro b_35
   refine ⟨.inr (.p (.t (.t (.t (.t .h)))) .nil), ?_⟩
   refine anyS_all (rs := [4]) (by kernel_rfl) (by simp) ?_
   intro i hi; obtain rfl := List.mem_singleton.1 hi; clear hi
   refine opS_0 rfl rfl ?_
   refine OpE.ent (fam_push (SlH.mk a_31 ((msort true ((xs.drop (S * k)).take S)).length) c_32) (.t .h) (.t .h) (by omega)) ?_
   refine e_appendL (enc := slhV) (xs := (hd : List SlH)) (ns := ([(SlH.mk a_31 ((msort true ((xs.drop (S * k)).take S)).length) c_32)] : List SlH)) (zs := (hd ++ [(SlH.mk a_31 ((msort true ((xs.drop (S * k)).take S)).length) c_32)])) (bytes := 24) slhV_len slhV_one Try.underlying80 (i := Try.t69) rfl rfl rfl rfl rfl (by decide) rfl rfl (by first | rfl | omega) (by first | rfl | omega) (.t (.t .h)) (fun w hs => celR (.t .h) w hs) (by first | rfl | simp) (by (try simp only [List.length_append, List.length_cons, List.length_nil] at *); omega) (by (try simp only [List.length_append, List.length_cons, List.length_nil] at *); omega) ?_
   intro a_36 c_37
   refine ⟨.inr (.p (.t (.t (.t .h))) .nil), ?_⟩
   refine anyS_all (rs := [5]) (by kernel_rfl) (by simp) ?_
   intro i hi; obtain rfl := List.mem_singleton.1 hi; clear hi
   refine opS_0 rfl rfl ?_
   refine e_store (vs := [.slice a_36 ((hd ++ [(SlH.mk a_31 ((msort true ((xs.drop (S * k)).take S)).length) c_32)]).length) c_37]) (l' := [.slice a_36 ((hd ++ [(SlH.mk a_31 ((msort true ((xs.drop (S * k)).take S)).length) c_32)]).length) c_37]) rfl rfl rfl rfl Try.sizeOf80 (.t (.t (.t .h))) (Nat.le_of_ble_eq_true rfl) rfl ?_
   refine ⟨.inl (by simp), ?_⟩
   refine anyS_done (by kernel_rfl) ?_
   refine blockS_n ?_
   exact rnd_n ⟨[fam (hd ++ [(SlH.mk a_31 ((msort true ((xs.drop (S * k)).take S)).length) c_32)]) (bs ++ [(msort true ((xs.drop (S * k)).take S))]), osl a_36 c_37 ((hd ++ [(SlH.mk a_31 ((msort true ((xs.drop (S * k)).take S)).length) c_32)]).length) 1 69 ((hd ++ [(SlH.mk a_31 ((msort true ((xs.drop (S * k)).take S)).length) c_32)]).flatMap slhV), cel b_21 80 [.slice a_36 (hd ++ [(SlH.mk a_31 ((msort true ((xs.drop (S * k)).take S)).length) c_32)]).length c_37], cel b_3 69 [.slice xa xs.length xc], cel b_2 53 [.int .i64 ((R : Nat) : Int), .int .i64 ((m : Nat) : Int), .int .i64 ((S : Nat) : Int), .int .i64 W], cel b_1 84 [.int .i64 ((m : Nat) : Int), .slice a1 n1 c1, .slice a2 n2 c2, .slice a3 n3 c3], cel b_4 69 [.slice ga S gc]], .p (.t (.t .h)) (.p (.t .h) (.p .h (.p (.t .h) (.p (.t .h) (.p (.t .h) (.p (.t .h) .nil)))))), ⟨(hd ++ [(SlH.mk a_31 ((msort true ((xs.drop (S * k)).take S)).length) c_32)]), (bs ++ [(msort true ((xs.drop (S * k)).take S))]), a_36, c_37, (by rw [List.length_append, List.length_singleton]; omega), (by rw [List.length_append, List.length_singleton]; omega), (hn_app (by omega) (by assumption) (by show (msort true _).length = S; rw [msort_len]; assumption)), (cut_next (by assumption)), rfl⟩⟩
  ·
   rintro d_24 A' ⟨hd, bs, oa, oc, hf0_24, hf1_24, hf2_24, hf3_24, rfl⟩
   refine blockS_n ?_
   refine thenS_n ?_
   refine wpS_seq ?_
   refine wpS_region ?_
   refine s_y (v := .slice oa hd.length oc) (y_load1 rfl Try.isAgg80 (own1 (.t (.t (.t .h))) rfl)) rfl ?_
   refine s_y (v := .slice oa hd.length oc) (y_assign rfl) rfl ?_
   refine wpL_nil ?_
   refine thenS_n ?_
   refine wpS_ret ?_
   refine fin1 (M := [osl oa oc hd.length 1 69 (hd.flatMap slhV), fam hd bs]) (v := .slice oa hd.length oc) (.inr rfl) (.p .h (.p (.t (.t (.t (.t (.t (.t (.t (.t (.t (.t .h)))))))))) (.p (.t .h) (.p .h .nil)))) Try.results236 rfl ?_
   have e1 : hd.length = m := by assumption
   have e2 : bs = (mpB (chkB ((m : Nat) : Int) l1 l2 l3) ((m : Nat) : Int) l1 S m l) := by rw [(by assumption : bs = _), (by assumption : xs = _), List.take_of_length_le (by omega)]; rfl
   exact fun w' hs => ⟨((oa, oc), hd), by rw [e1], by rw [e1, e2] at hs; exact hs, e1, by assumption⟩
  ·
   intro _ _ _ _ _ h; exact h.elim
 ·
  intro _ _ _ _ _ h; exact h.elim
theorem right_c (p : Par) (w : World) : Pure Try.prog 206 #[.agg #[.int .i64 p.n0, .int .i64 p.n1, .int .i64 p.n2, .int .i64 p.n3]] w (.int .i64 (bad p)) := by
 refine calls_S (n := 52) (σ0 := (upd fr0 0 (.agg #[.int .i64 p.n0, .int .i64 p.n1, .int .i64 p.n2, .int .i64 p.n3]))) (D := []) (A := []) Try.func206 rfl Try.ntmps206 rfl (a1_fr _) (SH.start w) ?_
 refine wpS_seq ?_
 refine wpS_region ?_
 refine s_e rfl ?_
 refine e_box (v := .agg #[.int .i64 p.n0, .int .i64 p.n1, .int .i64 p.n2, .int .i64 p.n3]) (l := [.int .i64 p.n0, .int .i64 p.n1, .int .i64 p.n2, .int .i64 p.n3]) rfl rfl ?_
 intro b_1
 refine s_y (v := .int .i64 0) (y_assign rfl) rfl ?_
 refine wpL_nil ?_
 refine thenS_n ?_
 refine wpS_seq ?_
 refine wpS_seq ?_
 refine wpS_region ?_
 refine s_y (v := .pointer (some ⟨b_1, 0, none⟩)) (y_fieldAddr (o' := 0) rfl Try.underlying53 rfl Try.sizeOf3 (by decide) rfl) rfl ?_
 refine s_y (v := .int .i64 p.n0) (y_load1 rfl Try.isAgg3 (own1 .h rfl)) rfl ?_
 refine s_y (v := .bool (decide ((p.n0 : Int) < 1))) (y_lss (a := p.n0) (b := 1) rfl rfl rfl) rfl ?_
 refine s_y (v := .bool (decide ((p.n0 : Int) < 1))) (y_move rfl) rfl ?_
 rcases Bool.eq_false_or_eq_true (decide ((p.n0 : Int) < 1)) with b2 | b2
 ·
  have p2 := of_decide_eq_true b2
  refine s_no rfl rfl rfl rfl (b' := decide ((p.n0 : Int) < 1)) rfl b2 ?_
  refine s_no rfl rfl rfl rfl (b' := decide ((p.n0 : Int) < 1)) rfl b2 ?_
  refine s_no rfl rfl rfl rfl (b' := decide ((p.n0 : Int) < 1)) rfl b2 ?_
  refine s_y (v := .bool true) (y_pickT (b := decide ((p.n0 : Int) < 1)) rfl b2 rfl) rfl ?_
  refine s_y (v := .bool true) (y_move rfl) rfl ?_
  refine s_no rfl rfl rfl rfl rfl rfl ?_
  refine s_no rfl rfl rfl rfl rfl rfl ?_
  refine s_no rfl rfl rfl rfl rfl rfl ?_
  refine s_y (v := .bool true) (y_pickT rfl rfl rfl) rfl ?_
  refine s_y (v := .bool true) (y_move rfl) rfl ?_
  refine s_no rfl rfl rfl rfl rfl rfl ?_
  refine s_no rfl rfl rfl rfl rfl rfl ?_
  refine s_no rfl rfl rfl rfl rfl rfl ?_
  refine s_y (v := .bool true) (y_pickT rfl rfl rfl) rfl ?_
  refine s_y (v := .bool true) (y_move rfl) rfl ?_
  refine s_no rfl rfl rfl rfl rfl rfl ?_
  refine s_no rfl rfl rfl rfl rfl rfl ?_
  refine s_no rfl rfl rfl rfl rfl rfl ?_
  refine s_y (v := .bool true) (y_pickT rfl rfl rfl) rfl ?_
  refine s_y (v := .bool true) (y_move rfl) rfl ?_
  refine s_no rfl rfl rfl rfl rfl rfl ?_
  refine s_no rfl rfl rfl rfl rfl rfl ?_
  refine s_no rfl rfl rfl rfl rfl rfl ?_
  refine s_y (v := .bool true) (y_pickT rfl rfl rfl) rfl ?_
  refine s_y (v := .bool true) (y_move rfl) rfl ?_
  refine s_no rfl rfl rfl rfl rfl rfl ?_
  refine s_no rfl rfl rfl rfl rfl rfl ?_
  refine s_no rfl rfl rfl rfl rfl rfl ?_
  refine s_y (v := .bool true) (y_pickT rfl rfl rfl) rfl ?_
  refine s_y (v := .bool true) (y_move rfl) rfl ?_
  refine s_no rfl rfl rfl rfl rfl rfl ?_
  refine s_no rfl rfl rfl rfl rfl rfl ?_
  refine s_no rfl rfl rfl rfl rfl rfl ?_
  refine s_y (v := .bool true) (y_pickT rfl rfl rfl) rfl ?_
  refine wpL_nil ?_
  refine thenS_n ?_
  refine wpS_cond_t rfl ?_
  refine wpS_seq ?_
  refine wpS_region ?_
  refine s_y (v := .int .i64 1) (y_assign rfl) rfl ?_
  refine wpL_nil ?_
  refine thenS_n ?_
  refine wpS_ret ?_
  refine thenS_r ?_
  refine fin1 (M := []) (v := .int .i64 1) (.inr rfl) (.nil) Try.results206 rfl ?_
  exact fun w' hs => ⟨congrArg (fun z : Int => Ending.returned (.int .i64 z)) (bad_1 (by omega)).symm, hs⟩
 ·
  have p2 := of_decide_eq_false b2
  refine s_gy (y_fieldAddr (o' := 0) rfl Try.underlying53 rfl Try.sizeOf3 (by decide) rfl) rfl rfl rfl rfl (b' := decide ((p.n0 : Int) < 1)) rfl b2 ?_
  refine s_gy (y_load1 rfl Try.isAgg3 (own1 .h rfl)) rfl rfl rfl rfl (b' := decide ((p.n0 : Int) < 1)) rfl b2 ?_
  refine s_gy (y_gtr (a := p.n0) (b := 64) rfl rfl rfl) rfl rfl rfl rfl (b' := decide ((p.n0 : Int) < 1)) rfl b2 ?_
  refine s_y (v := .bool (decide ((64 : Int) < p.n0))) (y_pickF (b := decide ((p.n0 : Int) < 1)) rfl b2 rfl) rfl ?_
  refine s_y (v := .bool (decide ((64 : Int) < p.n0))) (y_move rfl) rfl ?_
  rcases Bool.eq_false_or_eq_true (decide ((64 : Int) < p.n0)) with b3 | b3
  ·
   have p3 := of_decide_eq_true b3
   refine s_no rfl rfl rfl rfl (b' := decide ((64 : Int) < p.n0)) rfl b3 ?_
   refine s_no rfl rfl rfl rfl (b' := decide ((64 : Int) < p.n0)) rfl b3 ?_
   refine s_no rfl rfl rfl rfl (b' := decide ((64 : Int) < p.n0)) rfl b3 ?_
   refine s_y (v := .bool true) (y_pickT (b := decide ((64 : Int) < p.n0)) rfl b3 rfl) rfl ?_
   refine s_y (v := .bool true) (y_move rfl) rfl ?_
   refine s_no rfl rfl rfl rfl rfl rfl ?_
   refine s_no rfl rfl rfl rfl rfl rfl ?_
   refine s_no rfl rfl rfl rfl rfl rfl ?_
   refine s_y (v := .bool true) (y_pickT rfl rfl rfl) rfl ?_
   refine s_y (v := .bool true) (y_move rfl) rfl ?_
   refine s_no rfl rfl rfl rfl rfl rfl ?_
   refine s_no rfl rfl rfl rfl rfl rfl ?_
   refine s_no rfl rfl rfl rfl rfl rfl ?_
   refine s_y (v := .bool true) (y_pickT rfl rfl rfl) rfl ?_
   refine s_y (v := .bool true) (y_move rfl) rfl ?_
   refine s_no rfl rfl rfl rfl rfl rfl ?_
   refine s_no rfl rfl rfl rfl rfl rfl ?_
   refine s_no rfl rfl rfl rfl rfl rfl ?_
   refine s_y (v := .bool true) (y_pickT rfl rfl rfl) rfl ?_
   refine s_y (v := .bool true) (y_move rfl) rfl ?_
   refine s_no rfl rfl rfl rfl rfl rfl ?_
   refine s_no rfl rfl rfl rfl rfl rfl ?_
   refine s_no rfl rfl rfl rfl rfl rfl ?_
   refine s_y (v := .bool true) (y_pickT rfl rfl rfl) rfl ?_
   refine s_y (v := .bool true) (y_move rfl) rfl ?_
   refine s_no rfl rfl rfl rfl rfl rfl ?_
   refine s_no rfl rfl rfl rfl rfl rfl ?_
   refine s_no rfl rfl rfl rfl rfl rfl ?_
   refine s_y (v := .bool true) (y_pickT rfl rfl rfl) rfl ?_
   refine wpL_nil ?_
   refine thenS_n ?_
   refine wpS_cond_t rfl ?_
   refine wpS_seq ?_
   refine wpS_region ?_
   refine s_y (v := .int .i64 1) (y_assign rfl) rfl ?_
   refine wpL_nil ?_
   refine thenS_n ?_
   refine wpS_ret ?_
   refine thenS_r ?_
   refine fin1 (M := []) (v := .int .i64 1) (.inr rfl) (.nil) Try.results206 rfl ?_
   exact fun w' hs => ⟨congrArg (fun z : Int => Ending.returned (.int .i64 z)) (bad_1 (by omega)).symm, hs⟩
  ·
   have p3 := of_decide_eq_false b3
   refine s_gy (y_fieldAddr (o' := 1) rfl Try.underlying53 rfl Try.sizeOf3 (by decide) rfl) rfl rfl rfl rfl (b' := decide ((64 : Int) < p.n0)) rfl b3 ?_
   refine s_gy (y_load1 rfl Try.isAgg3 (own1 .h rfl)) rfl rfl rfl rfl (b' := decide ((64 : Int) < p.n0)) rfl b3 ?_
   refine s_gy (y_lss (a := p.n1) (b := 1) rfl rfl rfl) rfl rfl rfl rfl (b' := decide ((64 : Int) < p.n0)) rfl b3 ?_
   refine s_y (v := .bool (decide ((p.n1 : Int) < 1))) (y_pickF (b := decide ((64 : Int) < p.n0)) rfl b3 rfl) rfl ?_
   refine s_y (v := .bool (decide ((p.n1 : Int) < 1))) (y_move rfl) rfl ?_
   rcases Bool.eq_false_or_eq_true (decide ((p.n1 : Int) < 1)) with b4 | b4
   ·
    have p4 := of_decide_eq_true b4
    refine s_no rfl rfl rfl rfl (b' := decide ((p.n1 : Int) < 1)) rfl b4 ?_
    refine s_no rfl rfl rfl rfl (b' := decide ((p.n1 : Int) < 1)) rfl b4 ?_
    refine s_no rfl rfl rfl rfl (b' := decide ((p.n1 : Int) < 1)) rfl b4 ?_
    refine s_y (v := .bool true) (y_pickT (b := decide ((p.n1 : Int) < 1)) rfl b4 rfl) rfl ?_
    refine s_y (v := .bool true) (y_move rfl) rfl ?_
    refine s_no rfl rfl rfl rfl rfl rfl ?_
    refine s_no rfl rfl rfl rfl rfl rfl ?_
    refine s_no rfl rfl rfl rfl rfl rfl ?_
    refine s_y (v := .bool true) (y_pickT rfl rfl rfl) rfl ?_
    refine s_y (v := .bool true) (y_move rfl) rfl ?_
    refine s_no rfl rfl rfl rfl rfl rfl ?_
    refine s_no rfl rfl rfl rfl rfl rfl ?_
    refine s_no rfl rfl rfl rfl rfl rfl ?_
    refine s_y (v := .bool true) (y_pickT rfl rfl rfl) rfl ?_
    refine s_y (v := .bool true) (y_move rfl) rfl ?_
    refine s_no rfl rfl rfl rfl rfl rfl ?_
    refine s_no rfl rfl rfl rfl rfl rfl ?_
    refine s_no rfl rfl rfl rfl rfl rfl ?_
    refine s_y (v := .bool true) (y_pickT rfl rfl rfl) rfl ?_
    refine s_y (v := .bool true) (y_move rfl) rfl ?_
    refine s_no rfl rfl rfl rfl rfl rfl ?_
    refine s_no rfl rfl rfl rfl rfl rfl ?_
    refine s_no rfl rfl rfl rfl rfl rfl ?_
    refine s_y (v := .bool true) (y_pickT rfl rfl rfl) rfl ?_
    refine wpL_nil ?_
    refine thenS_n ?_
    refine wpS_cond_t rfl ?_
    refine wpS_seq ?_
    refine wpS_region ?_
    refine s_y (v := .int .i64 1) (y_assign rfl) rfl ?_
    refine wpL_nil ?_
    refine thenS_n ?_
    refine wpS_ret ?_
    refine thenS_r ?_
    refine fin1 (M := []) (v := .int .i64 1) (.inr rfl) (.nil) Try.results206 rfl ?_
    exact fun w' hs => ⟨congrArg (fun z : Int => Ending.returned (.int .i64 z)) (bad_1 (by omega)).symm, hs⟩
   ·
    have p4 := of_decide_eq_false b4
    refine s_gy (y_fieldAddr (o' := 1) rfl Try.underlying53 rfl Try.sizeOf3 (by decide) rfl) rfl rfl rfl rfl (b' := decide ((p.n1 : Int) < 1)) rfl b4 ?_
    refine s_gy (y_load1 rfl Try.isAgg3 (own1 .h rfl)) rfl rfl rfl rfl (b' := decide ((p.n1 : Int) < 1)) rfl b4 ?_
    refine s_gy (y_gtr (a := p.n1) (b := 4) rfl rfl rfl) rfl rfl rfl rfl (b' := decide ((p.n1 : Int) < 1)) rfl b4 ?_
    refine s_y (v := .bool (decide ((4 : Int) < p.n1))) (y_pickF (b := decide ((p.n1 : Int) < 1)) rfl b4 rfl) rfl ?_
    refine s_y (v := .bool (decide ((4 : Int) < p.n1))) (y_move rfl) rfl ?_
    rcases Bool.eq_false_or_eq_true (decide ((4 : Int) < p.n1)) with b5 | b5
    ·
     have p5 := of_decide_eq_true b5
     refine s_no rfl rfl rfl rfl (b' := decide ((4 : Int) < p.n1)) rfl b5 ?_
     refine s_no rfl rfl rfl rfl (b' := decide ((4 : Int) < p.n1)) rfl b5 ?_
     refine s_no rfl rfl rfl rfl (b' := decide ((4 : Int) < p.n1)) rfl b5 ?_
     refine s_y (v := .bool true) (y_pickT (b := decide ((4 : Int) < p.n1)) rfl b5 rfl) rfl ?_
     refine s_y (v := .bool true) (y_move rfl) rfl ?_
     refine s_no rfl rfl rfl rfl rfl rfl ?_
     refine s_no rfl rfl rfl rfl rfl rfl ?_
     refine s_no rfl rfl rfl rfl rfl rfl ?_
     refine s_y (v := .bool true) (y_pickT rfl rfl rfl) rfl ?_
     refine s_y (v := .bool true) (y_move rfl) rfl ?_
     refine s_no rfl rfl rfl rfl rfl rfl ?_
     refine s_no rfl rfl rfl rfl rfl rfl ?_
     refine s_no rfl rfl rfl rfl rfl rfl ?_
     refine s_y (v := .bool true) (y_pickT rfl rfl rfl) rfl ?_
     refine s_y (v := .bool true) (y_move rfl) rfl ?_
     refine s_no rfl rfl rfl rfl rfl rfl ?_
     refine s_no rfl rfl rfl rfl rfl rfl ?_
     refine s_no rfl rfl rfl rfl rfl rfl ?_
     refine s_y (v := .bool true) (y_pickT rfl rfl rfl) rfl ?_
     refine wpL_nil ?_
     refine thenS_n ?_
     refine wpS_cond_t rfl ?_
     refine wpS_seq ?_
     refine wpS_region ?_
     refine s_y (v := .int .i64 1) (y_assign rfl) rfl ?_
     refine wpL_nil ?_
     refine thenS_n ?_
     refine wpS_ret ?_
     refine thenS_r ?_
     refine fin1 (M := []) (v := .int .i64 1) (.inr rfl) (.nil) Try.results206 rfl ?_
     exact fun w' hs => ⟨congrArg (fun z : Int => Ending.returned (.int .i64 z)) (bad_1 (by omega)).symm, hs⟩
    ·
     have p5 := of_decide_eq_false b5
     refine s_gy (y_fieldAddr (o' := 2) rfl Try.underlying53 rfl Try.sizeOf3 (by decide) rfl) rfl rfl rfl rfl (b' := decide ((4 : Int) < p.n1)) rfl b5 ?_
     refine s_gy (y_load1 rfl Try.isAgg3 (own1 .h rfl)) rfl rfl rfl rfl (b' := decide ((4 : Int) < p.n1)) rfl b5 ?_
     refine s_gy (y_lss (a := p.n2) (b := 1) rfl rfl rfl) rfl rfl rfl rfl (b' := decide ((4 : Int) < p.n1)) rfl b5 ?_
     refine s_y (v := .bool (decide ((p.n2 : Int) < 1))) (y_pickF (b := decide ((4 : Int) < p.n1)) rfl b5 rfl) rfl ?_
     refine s_y (v := .bool (decide ((p.n2 : Int) < 1))) (y_move rfl) rfl ?_
     rcases Bool.eq_false_or_eq_true (decide ((p.n2 : Int) < 1)) with b6 | b6
     ·
      have p6 := of_decide_eq_true b6
      refine s_no rfl rfl rfl rfl (b' := decide ((p.n2 : Int) < 1)) rfl b6 ?_
      refine s_no rfl rfl rfl rfl (b' := decide ((p.n2 : Int) < 1)) rfl b6 ?_
      refine s_no rfl rfl rfl rfl (b' := decide ((p.n2 : Int) < 1)) rfl b6 ?_
      refine s_y (v := .bool true) (y_pickT (b := decide ((p.n2 : Int) < 1)) rfl b6 rfl) rfl ?_
      refine s_y (v := .bool true) (y_move rfl) rfl ?_
      refine s_no rfl rfl rfl rfl rfl rfl ?_
      refine s_no rfl rfl rfl rfl rfl rfl ?_
      refine s_no rfl rfl rfl rfl rfl rfl ?_
      refine s_y (v := .bool true) (y_pickT rfl rfl rfl) rfl ?_
      refine s_y (v := .bool true) (y_move rfl) rfl ?_
      refine s_no rfl rfl rfl rfl rfl rfl ?_
      refine s_no rfl rfl rfl rfl rfl rfl ?_
      refine s_no rfl rfl rfl rfl rfl rfl ?_
      refine s_y (v := .bool true) (y_pickT rfl rfl rfl) rfl ?_
      refine wpL_nil ?_
      refine thenS_n ?_
      refine wpS_cond_t rfl ?_
      refine wpS_seq ?_
      refine wpS_region ?_
      refine s_y (v := .int .i64 1) (y_assign rfl) rfl ?_
      refine wpL_nil ?_
      refine thenS_n ?_
      refine wpS_ret ?_
      refine thenS_r ?_
      refine fin1 (M := []) (v := .int .i64 1) (.inr rfl) (.nil) Try.results206 rfl ?_
      exact fun w' hs => ⟨congrArg (fun z : Int => Ending.returned (.int .i64 z)) (bad_1 (by omega)).symm, hs⟩
     ·
      have p6 := of_decide_eq_false b6
      refine s_gy (y_fieldAddr (o' := 2) rfl Try.underlying53 rfl Try.sizeOf3 (by decide) rfl) rfl rfl rfl rfl (b' := decide ((p.n2 : Int) < 1)) rfl b6 ?_
      refine s_gy (y_load1 rfl Try.isAgg3 (own1 .h rfl)) rfl rfl rfl rfl (b' := decide ((p.n2 : Int) < 1)) rfl b6 ?_
      refine s_gy (y_gtr (a := p.n2) (b := 8) rfl rfl rfl) rfl rfl rfl rfl (b' := decide ((p.n2 : Int) < 1)) rfl b6 ?_
      refine s_y (v := .bool (decide ((8 : Int) < p.n2))) (y_pickF (b := decide ((p.n2 : Int) < 1)) rfl b6 rfl) rfl ?_
      refine s_y (v := .bool (decide ((8 : Int) < p.n2))) (y_move rfl) rfl ?_
      rcases Bool.eq_false_or_eq_true (decide ((8 : Int) < p.n2)) with b7 | b7
      ·
       have p7 := of_decide_eq_true b7
       refine s_no rfl rfl rfl rfl (b' := decide ((8 : Int) < p.n2)) rfl b7 ?_
       refine s_no rfl rfl rfl rfl (b' := decide ((8 : Int) < p.n2)) rfl b7 ?_
       refine s_no rfl rfl rfl rfl (b' := decide ((8 : Int) < p.n2)) rfl b7 ?_
       refine s_y (v := .bool true) (y_pickT (b := decide ((8 : Int) < p.n2)) rfl b7 rfl) rfl ?_
       refine s_y (v := .bool true) (y_move rfl) rfl ?_
       refine s_no rfl rfl rfl rfl rfl rfl ?_
       refine s_no rfl rfl rfl rfl rfl rfl ?_
       refine s_no rfl rfl rfl rfl rfl rfl ?_
       refine s_y (v := .bool true) (y_pickT rfl rfl rfl) rfl ?_
       refine wpL_nil ?_
       refine thenS_n ?_
       refine wpS_cond_t rfl ?_
       refine wpS_seq ?_
       refine wpS_region ?_
       refine s_y (v := .int .i64 1) (y_assign rfl) rfl ?_
       refine wpL_nil ?_
       refine thenS_n ?_
       refine wpS_ret ?_
       refine thenS_r ?_
       refine fin1 (M := []) (v := .int .i64 1) (.inr rfl) (.nil) Try.results206 rfl ?_
       exact fun w' hs => ⟨congrArg (fun z : Int => Ending.returned (.int .i64 z)) (bad_1 (by omega)).symm, hs⟩
      ·
       have p7 := of_decide_eq_false b7
       refine s_gy (y_fieldAddr (o' := 3) rfl Try.underlying53 rfl Try.sizeOf3 (by decide) rfl) rfl rfl rfl rfl (b' := decide ((8 : Int) < p.n2)) rfl b7 ?_
       refine s_gy (y_load1 rfl Try.isAgg3 (own1 .h rfl)) rfl rfl rfl rfl (b' := decide ((8 : Int) < p.n2)) rfl b7 ?_
       refine s_gy (y_lss (a := p.n3) (b := 1) rfl rfl rfl) rfl rfl rfl rfl (b' := decide ((8 : Int) < p.n2)) rfl b7 ?_
       refine s_y (v := .bool (decide ((p.n3 : Int) < 1))) (y_pickF (b := decide ((8 : Int) < p.n2)) rfl b7 rfl) rfl ?_
       refine s_y (v := .bool (decide ((p.n3 : Int) < 1))) (y_move rfl) rfl ?_
       rcases Bool.eq_false_or_eq_true (decide ((p.n3 : Int) < 1)) with b8 | b8
       ·
        have p8 := of_decide_eq_true b8
        refine s_no rfl rfl rfl rfl (b' := decide ((p.n3 : Int) < 1)) rfl b8 ?_
        refine s_no rfl rfl rfl rfl (b' := decide ((p.n3 : Int) < 1)) rfl b8 ?_
        refine s_no rfl rfl rfl rfl (b' := decide ((p.n3 : Int) < 1)) rfl b8 ?_
        refine s_y (v := .bool true) (y_pickT (b := decide ((p.n3 : Int) < 1)) rfl b8 rfl) rfl ?_
        refine wpL_nil ?_
        refine thenS_n ?_
        refine wpS_cond_t rfl ?_
        refine wpS_seq ?_
        refine wpS_region ?_
        refine s_y (v := .int .i64 1) (y_assign rfl) rfl ?_
        refine wpL_nil ?_
        refine thenS_n ?_
        refine wpS_ret ?_
        refine thenS_r ?_
        refine fin1 (M := []) (v := .int .i64 1) (.inr rfl) (.nil) Try.results206 rfl ?_
        exact fun w' hs => ⟨congrArg (fun z : Int => Ending.returned (.int .i64 z)) (bad_1 (by omega)).symm, hs⟩
       ·
        have p8 := of_decide_eq_false b8
        refine s_gy (y_fieldAddr (o' := 3) rfl Try.underlying53 rfl Try.sizeOf3 (by decide) rfl) rfl rfl rfl rfl (b' := decide ((p.n3 : Int) < 1)) rfl b8 ?_
        refine s_gy (y_load1 rfl Try.isAgg3 (own1 .h rfl)) rfl rfl rfl rfl (b' := decide ((p.n3 : Int) < 1)) rfl b8 ?_
        refine s_gy (y_gtr (a := p.n3) (b := 4) rfl rfl rfl) rfl rfl rfl rfl (b' := decide ((p.n3 : Int) < 1)) rfl b8 ?_
        refine s_y (v := .bool (decide ((4 : Int) < p.n3))) (y_pickF (b := decide ((p.n3 : Int) < 1)) rfl b8 rfl) rfl ?_
        refine wpL_nil ?_
        refine thenS_n ?_
        refine wpS_cond (t := decide ((4 : Int) < p.n3)) rfl (fun b9 => ?_) (fun b9 => ?_)
        ·
         have p9 := of_decide_eq_true b9
         refine wpS_seq ?_
         refine wpS_region ?_
         refine s_y (v := .int .i64 1) (y_assign rfl) rfl ?_
         refine wpL_nil ?_
         refine thenS_n ?_
         refine wpS_ret ?_
         refine thenS_r ?_
         refine fin1 (M := []) (v := .int .i64 1) (.inr rfl) (.nil) Try.results206 rfl ?_
         exact fun w' hs => ⟨congrArg (fun z : Int => Ending.returned (.int .i64 z)) (bad_1 (by omega)).symm, hs⟩
        ·
         have p9 := of_decide_eq_false b9
         refine wpS_skip ?_
         refine thenS_n ?_
         refine wpS_seq ?_
         refine wpS_seq ?_
         refine wpS_lex (by kernel_rfl) (by kernel_rfl) ?_
         refine x_y (v := .pointer (some ⟨b_1, 1, none⟩)) (y_fieldAddr (o' := 1) rfl Try.underlying53 rfl Try.sizeOf3 (by decide) rfl) rfl ?_
         refine x_y (v := .int .i64 p.n1) (y_load1 rfl Try.isAgg3 (own1 .h rfl)) rfl ?_
         refine x_y (v := .pointer (some ⟨b_1, 0, none⟩)) (y_fieldAddr (o' := 0) rfl Try.underlying53 rfl Try.sizeOf3 (by decide) rfl) rfl ?_
         refine x_y (v := .int .i64 p.n0) (y_load1 rfl Try.isAgg3 (own1 .h rfl)) rfl ?_
         refine x_y (v := .int .i64 (p.n0 - 1)) (y_sub (a := p.n0) (b := 1) rfl rfl (wI rfl (by omega) (by omega))) rfl ?_
         refine x_y (v := .pointer (some ⟨b_1, 2, none⟩)) (y_fieldAddr (o' := 2) rfl Try.underlying53 rfl Try.sizeOf3 (by decide) rfl) rfl ?_
         refine x_y (v := .int .i64 p.n2) (y_load1 rfl Try.isAgg3 (own1 .h rfl)) rfl ?_
         have hq := q_bd (a := p.n0) (b := p.n2) (by omega) (by omega) (by omega)
         refine x_y (v := .int .i64 ((p.n0 - 1) / p.n2)) (y_quo (a := p.n0 - 1) (b := p.n2) rfl rfl (by omega) (q_wrap (by omega) (by omega) (by omega))) rfl ?_
         have hc := cdv_bd (a := p.n0) (b := p.n2) (by omega) (by omega) (by omega)
         refine x_y (v := .int .i64 (cdv p.n0 p.n2)) (y_add (a := (p.n0 - 1) / p.n2) (b := 1) rfl rfl (wI rfl (by omega) (by omega))) rfl ?_
         have hnb := nb_bd (a := p.n1) (c := cdv p.n0 p.n2) (by omega) (by omega) (by omega) (by omega)
         refine x_y (v := .int .i64 (p.n1 * cdv p.n0 p.n2)) (y_mul (a := p.n1) (b := cdv p.n0 p.n2) rfl rfl (nb_wrap (by omega) (by omega) (by omega) (by omega))) rfl ?_
         refine x_y (v := .bool (decide ((32 : Int) ≤ (p.n1 * cdv p.n0 p.n2)))) (y_geq (a := p.n1 * cdv p.n0 p.n2) (b := 32) rfl rfl rfl) rfl ?_
         refine x_nil ?_
         refine thenS_n ?_
         refine wpS_cond (t := decide ((32 : Int) ≤ (p.n1 * cdv p.n0 p.n2))) rfl (fun b10 => ?_) (fun b10 => ?_)
         ·
          have p10 := of_decide_eq_true b10
          refine wpS_seq ?_
          refine wpS_region ?_
          refine s_y (v := .int .i64 1) (y_assign rfl) rfl ?_
          refine wpL_nil ?_
          refine thenS_n ?_
          refine wpS_ret ?_
          refine thenS_r ?_
          refine fin1 (M := []) (v := .int .i64 1) (.inr rfl) (.nil) Try.results206 rfl ?_
          exact fun w' hs => ⟨congrArg (fun z : Int => Ending.returned (.int .i64 z)) (bad_1 (by omega)).symm, hs⟩
         ·
          have p10 := of_decide_eq_false b10
          refine wpS_skip ?_
          refine thenS_n ?_
          refine wpS_seq ?_
          refine wpS_region ?_
          refine s_y (v := .int .i64 0) (y_assign rfl) rfl ?_
          refine wpL_nil ?_
          refine thenS_n ?_
          refine wpS_ret ?_
          refine fin1 (M := []) (v := .int .i64 0) (.inr rfl) (.nil) Try.results206 rfl ?_
          exact fun w' hs => ⟨congrArg (fun z : Int => Ending.returned (.int .i64 z)) (bad_0 (by omega)).symm, hs⟩
theorem rright_c (p : Par) (w : World) : Pure Try.prog 101 #[.agg #[.int .i64 p.n0, .int .i64 p.n1, .int .i64 p.n2, .int .i64 p.n3]] w (.int .i64 (bad p)) := by
 refine calls_S (n := 56) (σ0 := (upd fr0 0 (.agg #[.int .i64 p.n0, .int .i64 p.n1, .int .i64 p.n2, .int .i64 p.n3]))) (D := []) (A := []) Try.func101 rfl Try.ntmps101 rfl (a1_fr _) (SH.start w) ?_
 refine wpS_seq ?_
 refine wpS_region ?_
 refine s_e rfl ?_
 refine e_box (v := .agg #[.int .i64 p.n0, .int .i64 p.n1, .int .i64 p.n2, .int .i64 p.n3]) (l := [.int .i64 p.n0, .int .i64 p.n1, .int .i64 p.n2, .int .i64 p.n3]) rfl rfl ?_
 intro b_1
 refine s_y (v := .int .i64 0) (y_assign rfl) rfl ?_
 refine wpL_nil ?_
 refine thenS_n ?_
 refine wpS_seq ?_
 refine wpS_seq ?_
 refine wpS_lex (by kernel_rfl) (by kernel_rfl) ?_
 refine x_y (v := .pointer (some ⟨b_1, 0, none⟩)) (y_fieldAddr (o' := 0) rfl Try.underlying53 rfl Try.sizeOf3 (by decide) rfl) rfl ?_
 refine x_y (v := .int .i64 p.n0) (y_load1 rfl Try.isAgg3 (own1 .h rfl)) rfl ?_
 refine x_y (v := .bool (decide ((p.n0 : Int) < 1))) (y_lss (a := p.n0) (b := 1) rfl rfl rfl) rfl ?_
 refine x_y (v := .bool (decide ((p.n0 : Int) < 1))) (y_move rfl) rfl ?_
 rcases Bool.eq_false_or_eq_true (decide ((p.n0 : Int) < 1)) with b2 | b2
 ·
  have p2 := of_decide_eq_true b2
  refine x_no rfl rfl rfl rfl (b' := decide ((p.n0 : Int) < 1)) rfl b2 ?_
  refine x_no rfl rfl rfl rfl (b' := decide ((p.n0 : Int) < 1)) rfl b2 ?_
  refine x_no rfl rfl rfl rfl (b' := decide ((p.n0 : Int) < 1)) rfl b2 ?_
  refine x_y (v := .bool true) (y_pickT (b := decide ((p.n0 : Int) < 1)) rfl b2 rfl) rfl ?_
  refine x_y (v := .bool true) (y_move rfl) rfl ?_
  refine x_no rfl rfl rfl rfl rfl rfl ?_
  refine x_no rfl rfl rfl rfl rfl rfl ?_
  refine x_no rfl rfl rfl rfl rfl rfl ?_
  refine x_y (v := .bool true) (y_pickT rfl rfl rfl) rfl ?_
  refine x_y (v := .bool true) (y_move rfl) rfl ?_
  refine x_no rfl rfl rfl rfl rfl rfl ?_
  refine x_no rfl rfl rfl rfl rfl rfl ?_
  refine x_no rfl rfl rfl rfl rfl rfl ?_
  refine x_y (v := .bool true) (y_pickT rfl rfl rfl) rfl ?_
  refine x_y (v := .bool true) (y_move rfl) rfl ?_
  refine x_no rfl rfl rfl rfl rfl rfl ?_
  refine x_no rfl rfl rfl rfl rfl rfl ?_
  refine x_no rfl rfl rfl rfl rfl rfl ?_
  refine x_y (v := .bool true) (y_pickT rfl rfl rfl) rfl ?_
  refine x_y (v := .bool true) (y_move rfl) rfl ?_
  refine x_no rfl rfl rfl rfl rfl rfl ?_
  refine x_no rfl rfl rfl rfl rfl rfl ?_
  refine x_no rfl rfl rfl rfl rfl rfl ?_
  refine x_y (v := .bool true) (y_pickT rfl rfl rfl) rfl ?_
  refine x_y (v := .bool true) (y_move rfl) rfl ?_
  refine x_no rfl rfl rfl rfl rfl rfl ?_
  refine x_no rfl rfl rfl rfl rfl rfl ?_
  refine x_no rfl rfl rfl rfl rfl rfl ?_
  refine x_y (v := .bool true) (y_pickT rfl rfl rfl) rfl ?_
  refine x_y (v := .bool true) (y_move rfl) rfl ?_
  refine x_no rfl rfl rfl rfl rfl rfl ?_
  refine x_no rfl rfl rfl rfl rfl rfl ?_
  refine x_no rfl rfl rfl rfl rfl rfl ?_
  refine x_y (v := .bool true) (y_pickT rfl rfl rfl) rfl ?_
  refine x_y (v := .bool true) (y_move rfl) rfl ?_
  refine x_no rfl rfl rfl rfl rfl rfl ?_
  refine x_no rfl rfl rfl rfl rfl rfl ?_
  refine x_no rfl rfl rfl rfl rfl rfl ?_
  refine x_no rfl rfl rfl rfl rfl rfl ?_
  refine x_no rfl rfl rfl rfl rfl rfl ?_
  refine x_no rfl rfl rfl rfl rfl rfl ?_
  refine x_no rfl rfl rfl rfl rfl rfl ?_
  refine x_no rfl rfl rfl rfl rfl rfl ?_
  refine x_no rfl rfl rfl rfl rfl rfl ?_
  refine x_no rfl rfl rfl rfl rfl rfl ?_
  refine x_no rfl rfl rfl rfl rfl rfl ?_
  refine x_no rfl rfl rfl rfl rfl rfl ?_
  refine x_no rfl rfl rfl rfl rfl rfl ?_
  refine x_y (v := .bool true) (y_pickT rfl rfl rfl) rfl ?_
  refine x_nil ?_
  refine thenS_n ?_
  refine wpS_cond_t rfl ?_
  refine wpS_seq ?_
  refine wpS_region ?_
  refine s_y (v := .int .i64 1) (y_assign rfl) rfl ?_
  refine wpL_nil ?_
  refine thenS_n ?_
  refine wpS_ret ?_
  refine thenS_r ?_
  refine fin1 (M := []) (v := .int .i64 1) (.inr rfl) (.nil) Try.results101 rfl ?_
  exact fun w' hs => ⟨congrArg (fun z : Int => Ending.returned (.int .i64 z)) (bad_1 (by omega)).symm, hs⟩
 ·
  have p2 := of_decide_eq_false b2
  refine x_gy (y_fieldAddr (o' := 0) rfl Try.underlying53 rfl Try.sizeOf3 (by decide) rfl) rfl rfl rfl rfl (b' := decide ((p.n0 : Int) < 1)) rfl b2 ?_
  refine x_gy (y_load1 rfl Try.isAgg3 (own1 .h rfl)) rfl rfl rfl rfl (b' := decide ((p.n0 : Int) < 1)) rfl b2 ?_
  refine x_gy (y_gtr (a := p.n0) (b := 64) rfl rfl rfl) rfl rfl rfl rfl (b' := decide ((p.n0 : Int) < 1)) rfl b2 ?_
  refine x_y (v := .bool (decide ((64 : Int) < p.n0))) (y_pickF (b := decide ((p.n0 : Int) < 1)) rfl b2 rfl) rfl ?_
  refine x_y (v := .bool (decide ((64 : Int) < p.n0))) (y_move rfl) rfl ?_
  rcases Bool.eq_false_or_eq_true (decide ((64 : Int) < p.n0)) with b3 | b3
  ·
   have p3 := of_decide_eq_true b3
   refine x_no rfl rfl rfl rfl (b' := decide ((64 : Int) < p.n0)) rfl b3 ?_
   refine x_no rfl rfl rfl rfl (b' := decide ((64 : Int) < p.n0)) rfl b3 ?_
   refine x_no rfl rfl rfl rfl (b' := decide ((64 : Int) < p.n0)) rfl b3 ?_
   refine x_y (v := .bool true) (y_pickT (b := decide ((64 : Int) < p.n0)) rfl b3 rfl) rfl ?_
   refine x_y (v := .bool true) (y_move rfl) rfl ?_
   refine x_no rfl rfl rfl rfl rfl rfl ?_
   refine x_no rfl rfl rfl rfl rfl rfl ?_
   refine x_no rfl rfl rfl rfl rfl rfl ?_
   refine x_y (v := .bool true) (y_pickT rfl rfl rfl) rfl ?_
   refine x_y (v := .bool true) (y_move rfl) rfl ?_
   refine x_no rfl rfl rfl rfl rfl rfl ?_
   refine x_no rfl rfl rfl rfl rfl rfl ?_
   refine x_no rfl rfl rfl rfl rfl rfl ?_
   refine x_y (v := .bool true) (y_pickT rfl rfl rfl) rfl ?_
   refine x_y (v := .bool true) (y_move rfl) rfl ?_
   refine x_no rfl rfl rfl rfl rfl rfl ?_
   refine x_no rfl rfl rfl rfl rfl rfl ?_
   refine x_no rfl rfl rfl rfl rfl rfl ?_
   refine x_y (v := .bool true) (y_pickT rfl rfl rfl) rfl ?_
   refine x_y (v := .bool true) (y_move rfl) rfl ?_
   refine x_no rfl rfl rfl rfl rfl rfl ?_
   refine x_no rfl rfl rfl rfl rfl rfl ?_
   refine x_no rfl rfl rfl rfl rfl rfl ?_
   refine x_y (v := .bool true) (y_pickT rfl rfl rfl) rfl ?_
   refine x_y (v := .bool true) (y_move rfl) rfl ?_
   refine x_no rfl rfl rfl rfl rfl rfl ?_
   refine x_no rfl rfl rfl rfl rfl rfl ?_
   refine x_no rfl rfl rfl rfl rfl rfl ?_
   refine x_y (v := .bool true) (y_pickT rfl rfl rfl) rfl ?_
   refine x_y (v := .bool true) (y_move rfl) rfl ?_
   refine x_no rfl rfl rfl rfl rfl rfl ?_
   refine x_no rfl rfl rfl rfl rfl rfl ?_
   refine x_no rfl rfl rfl rfl rfl rfl ?_
   refine x_no rfl rfl rfl rfl rfl rfl ?_
   refine x_no rfl rfl rfl rfl rfl rfl ?_
   refine x_no rfl rfl rfl rfl rfl rfl ?_
   refine x_no rfl rfl rfl rfl rfl rfl ?_
   refine x_no rfl rfl rfl rfl rfl rfl ?_
   refine x_no rfl rfl rfl rfl rfl rfl ?_
   refine x_no rfl rfl rfl rfl rfl rfl ?_
   refine x_no rfl rfl rfl rfl rfl rfl ?_
   refine x_no rfl rfl rfl rfl rfl rfl ?_
   refine x_no rfl rfl rfl rfl rfl rfl ?_
   refine x_y (v := .bool true) (y_pickT rfl rfl rfl) rfl ?_
   refine x_nil ?_
   refine thenS_n ?_
   refine wpS_cond_t rfl ?_
   refine wpS_seq ?_
   refine wpS_region ?_
   refine s_y (v := .int .i64 1) (y_assign rfl) rfl ?_
   refine wpL_nil ?_
   refine thenS_n ?_
   refine wpS_ret ?_
   refine thenS_r ?_
   refine fin1 (M := []) (v := .int .i64 1) (.inr rfl) (.nil) Try.results101 rfl ?_
   exact fun w' hs => ⟨congrArg (fun z : Int => Ending.returned (.int .i64 z)) (bad_1 (by omega)).symm, hs⟩
  ·
   have p3 := of_decide_eq_false b3
   refine x_gy (y_fieldAddr (o' := 1) rfl Try.underlying53 rfl Try.sizeOf3 (by decide) rfl) rfl rfl rfl rfl (b' := decide ((64 : Int) < p.n0)) rfl b3 ?_
   refine x_gy (y_load1 rfl Try.isAgg3 (own1 .h rfl)) rfl rfl rfl rfl (b' := decide ((64 : Int) < p.n0)) rfl b3 ?_
   refine x_gy (y_lss (a := p.n1) (b := 1) rfl rfl rfl) rfl rfl rfl rfl (b' := decide ((64 : Int) < p.n0)) rfl b3 ?_
   refine x_y (v := .bool (decide ((p.n1 : Int) < 1))) (y_pickF (b := decide ((64 : Int) < p.n0)) rfl b3 rfl) rfl ?_
   refine x_y (v := .bool (decide ((p.n1 : Int) < 1))) (y_move rfl) rfl ?_
   rcases Bool.eq_false_or_eq_true (decide ((p.n1 : Int) < 1)) with b4 | b4
   ·
    have p4 := of_decide_eq_true b4
    refine x_no rfl rfl rfl rfl (b' := decide ((p.n1 : Int) < 1)) rfl b4 ?_
    refine x_no rfl rfl rfl rfl (b' := decide ((p.n1 : Int) < 1)) rfl b4 ?_
    refine x_no rfl rfl rfl rfl (b' := decide ((p.n1 : Int) < 1)) rfl b4 ?_
    refine x_y (v := .bool true) (y_pickT (b := decide ((p.n1 : Int) < 1)) rfl b4 rfl) rfl ?_
    refine x_y (v := .bool true) (y_move rfl) rfl ?_
    refine x_no rfl rfl rfl rfl rfl rfl ?_
    refine x_no rfl rfl rfl rfl rfl rfl ?_
    refine x_no rfl rfl rfl rfl rfl rfl ?_
    refine x_y (v := .bool true) (y_pickT rfl rfl rfl) rfl ?_
    refine x_y (v := .bool true) (y_move rfl) rfl ?_
    refine x_no rfl rfl rfl rfl rfl rfl ?_
    refine x_no rfl rfl rfl rfl rfl rfl ?_
    refine x_no rfl rfl rfl rfl rfl rfl ?_
    refine x_y (v := .bool true) (y_pickT rfl rfl rfl) rfl ?_
    refine x_y (v := .bool true) (y_move rfl) rfl ?_
    refine x_no rfl rfl rfl rfl rfl rfl ?_
    refine x_no rfl rfl rfl rfl rfl rfl ?_
    refine x_no rfl rfl rfl rfl rfl rfl ?_
    refine x_y (v := .bool true) (y_pickT rfl rfl rfl) rfl ?_
    refine x_y (v := .bool true) (y_move rfl) rfl ?_
    refine x_no rfl rfl rfl rfl rfl rfl ?_
    refine x_no rfl rfl rfl rfl rfl rfl ?_
    refine x_no rfl rfl rfl rfl rfl rfl ?_
    refine x_y (v := .bool true) (y_pickT rfl rfl rfl) rfl ?_
    refine x_y (v := .bool true) (y_move rfl) rfl ?_
    refine x_no rfl rfl rfl rfl rfl rfl ?_
    refine x_no rfl rfl rfl rfl rfl rfl ?_
    refine x_no rfl rfl rfl rfl rfl rfl ?_
    refine x_no rfl rfl rfl rfl rfl rfl ?_
    refine x_no rfl rfl rfl rfl rfl rfl ?_
    refine x_no rfl rfl rfl rfl rfl rfl ?_
    refine x_no rfl rfl rfl rfl rfl rfl ?_
    refine x_no rfl rfl rfl rfl rfl rfl ?_
    refine x_no rfl rfl rfl rfl rfl rfl ?_
    refine x_no rfl rfl rfl rfl rfl rfl ?_
    refine x_no rfl rfl rfl rfl rfl rfl ?_
    refine x_no rfl rfl rfl rfl rfl rfl ?_
    refine x_no rfl rfl rfl rfl rfl rfl ?_
    refine x_y (v := .bool true) (y_pickT rfl rfl rfl) rfl ?_
    refine x_nil ?_
    refine thenS_n ?_
    refine wpS_cond_t rfl ?_
    refine wpS_seq ?_
    refine wpS_region ?_
    refine s_y (v := .int .i64 1) (y_assign rfl) rfl ?_
    refine wpL_nil ?_
    refine thenS_n ?_
    refine wpS_ret ?_
    refine thenS_r ?_
    refine fin1 (M := []) (v := .int .i64 1) (.inr rfl) (.nil) Try.results101 rfl ?_
    exact fun w' hs => ⟨congrArg (fun z : Int => Ending.returned (.int .i64 z)) (bad_1 (by omega)).symm, hs⟩
   ·
    have p4 := of_decide_eq_false b4
    refine x_gy (y_fieldAddr (o' := 1) rfl Try.underlying53 rfl Try.sizeOf3 (by decide) rfl) rfl rfl rfl rfl (b' := decide ((p.n1 : Int) < 1)) rfl b4 ?_
    refine x_gy (y_load1 rfl Try.isAgg3 (own1 .h rfl)) rfl rfl rfl rfl (b' := decide ((p.n1 : Int) < 1)) rfl b4 ?_
    refine x_gy (y_gtr (a := p.n1) (b := 4) rfl rfl rfl) rfl rfl rfl rfl (b' := decide ((p.n1 : Int) < 1)) rfl b4 ?_
    refine x_y (v := .bool (decide ((4 : Int) < p.n1))) (y_pickF (b := decide ((p.n1 : Int) < 1)) rfl b4 rfl) rfl ?_
    refine x_y (v := .bool (decide ((4 : Int) < p.n1))) (y_move rfl) rfl ?_
    rcases Bool.eq_false_or_eq_true (decide ((4 : Int) < p.n1)) with b5 | b5
    ·
     have p5 := of_decide_eq_true b5
     refine x_no rfl rfl rfl rfl (b' := decide ((4 : Int) < p.n1)) rfl b5 ?_
     refine x_no rfl rfl rfl rfl (b' := decide ((4 : Int) < p.n1)) rfl b5 ?_
     refine x_no rfl rfl rfl rfl (b' := decide ((4 : Int) < p.n1)) rfl b5 ?_
     refine x_y (v := .bool true) (y_pickT (b := decide ((4 : Int) < p.n1)) rfl b5 rfl) rfl ?_
     refine x_y (v := .bool true) (y_move rfl) rfl ?_
     refine x_no rfl rfl rfl rfl rfl rfl ?_
     refine x_no rfl rfl rfl rfl rfl rfl ?_
     refine x_no rfl rfl rfl rfl rfl rfl ?_
     refine x_y (v := .bool true) (y_pickT rfl rfl rfl) rfl ?_
     refine x_y (v := .bool true) (y_move rfl) rfl ?_
     refine x_no rfl rfl rfl rfl rfl rfl ?_
     refine x_no rfl rfl rfl rfl rfl rfl ?_
     refine x_no rfl rfl rfl rfl rfl rfl ?_
     refine x_y (v := .bool true) (y_pickT rfl rfl rfl) rfl ?_
     refine x_y (v := .bool true) (y_move rfl) rfl ?_
     refine x_no rfl rfl rfl rfl rfl rfl ?_
     refine x_no rfl rfl rfl rfl rfl rfl ?_
     refine x_no rfl rfl rfl rfl rfl rfl ?_
     refine x_y (v := .bool true) (y_pickT rfl rfl rfl) rfl ?_
     refine x_y (v := .bool true) (y_move rfl) rfl ?_
     refine x_no rfl rfl rfl rfl rfl rfl ?_
     refine x_no rfl rfl rfl rfl rfl rfl ?_
     refine x_no rfl rfl rfl rfl rfl rfl ?_
     refine x_no rfl rfl rfl rfl rfl rfl ?_
     refine x_no rfl rfl rfl rfl rfl rfl ?_
     refine x_no rfl rfl rfl rfl rfl rfl ?_
     refine x_no rfl rfl rfl rfl rfl rfl ?_
     refine x_no rfl rfl rfl rfl rfl rfl ?_
     refine x_no rfl rfl rfl rfl rfl rfl ?_
     refine x_no rfl rfl rfl rfl rfl rfl ?_
     refine x_no rfl rfl rfl rfl rfl rfl ?_
     refine x_no rfl rfl rfl rfl rfl rfl ?_
     refine x_no rfl rfl rfl rfl rfl rfl ?_
     refine x_y (v := .bool true) (y_pickT rfl rfl rfl) rfl ?_
     refine x_nil ?_
     refine thenS_n ?_
     refine wpS_cond_t rfl ?_
     refine wpS_seq ?_
     refine wpS_region ?_
     refine s_y (v := .int .i64 1) (y_assign rfl) rfl ?_
     refine wpL_nil ?_
     refine thenS_n ?_
     refine wpS_ret ?_
     refine thenS_r ?_
     refine fin1 (M := []) (v := .int .i64 1) (.inr rfl) (.nil) Try.results101 rfl ?_
     exact fun w' hs => ⟨congrArg (fun z : Int => Ending.returned (.int .i64 z)) (bad_1 (by omega)).symm, hs⟩
    ·
     have p5 := of_decide_eq_false b5
     refine x_gy (y_fieldAddr (o' := 2) rfl Try.underlying53 rfl Try.sizeOf3 (by decide) rfl) rfl rfl rfl rfl (b' := decide ((4 : Int) < p.n1)) rfl b5 ?_
     refine x_gy (y_load1 rfl Try.isAgg3 (own1 .h rfl)) rfl rfl rfl rfl (b' := decide ((4 : Int) < p.n1)) rfl b5 ?_
     refine x_gy (y_lss (a := p.n2) (b := 1) rfl rfl rfl) rfl rfl rfl rfl (b' := decide ((4 : Int) < p.n1)) rfl b5 ?_
     refine x_y (v := .bool (decide ((p.n2 : Int) < 1))) (y_pickF (b := decide ((4 : Int) < p.n1)) rfl b5 rfl) rfl ?_
     refine x_y (v := .bool (decide ((p.n2 : Int) < 1))) (y_move rfl) rfl ?_
     rcases Bool.eq_false_or_eq_true (decide ((p.n2 : Int) < 1)) with b6 | b6
     ·
      have p6 := of_decide_eq_true b6
      refine x_no rfl rfl rfl rfl (b' := decide ((p.n2 : Int) < 1)) rfl b6 ?_
      refine x_no rfl rfl rfl rfl (b' := decide ((p.n2 : Int) < 1)) rfl b6 ?_
      refine x_no rfl rfl rfl rfl (b' := decide ((p.n2 : Int) < 1)) rfl b6 ?_
      refine x_y (v := .bool true) (y_pickT (b := decide ((p.n2 : Int) < 1)) rfl b6 rfl) rfl ?_
      refine x_y (v := .bool true) (y_move rfl) rfl ?_
      refine x_no rfl rfl rfl rfl rfl rfl ?_
      refine x_no rfl rfl rfl rfl rfl rfl ?_
      refine x_no rfl rfl rfl rfl rfl rfl ?_
      refine x_y (v := .bool true) (y_pickT rfl rfl rfl) rfl ?_
      refine x_y (v := .bool true) (y_move rfl) rfl ?_
      refine x_no rfl rfl rfl rfl rfl rfl ?_
      refine x_no rfl rfl rfl rfl rfl rfl ?_
      refine x_no rfl rfl rfl rfl rfl rfl ?_
      refine x_y (v := .bool true) (y_pickT rfl rfl rfl) rfl ?_
      refine x_y (v := .bool true) (y_move rfl) rfl ?_
      refine x_no rfl rfl rfl rfl rfl rfl ?_
      refine x_no rfl rfl rfl rfl rfl rfl ?_
      refine x_no rfl rfl rfl rfl rfl rfl ?_
      refine x_no rfl rfl rfl rfl rfl rfl ?_
      refine x_no rfl rfl rfl rfl rfl rfl ?_
      refine x_no rfl rfl rfl rfl rfl rfl ?_
      refine x_no rfl rfl rfl rfl rfl rfl ?_
      refine x_no rfl rfl rfl rfl rfl rfl ?_
      refine x_no rfl rfl rfl rfl rfl rfl ?_
      refine x_no rfl rfl rfl rfl rfl rfl ?_
      refine x_no rfl rfl rfl rfl rfl rfl ?_
      refine x_no rfl rfl rfl rfl rfl rfl ?_
      refine x_no rfl rfl rfl rfl rfl rfl ?_
      refine x_y (v := .bool true) (y_pickT rfl rfl rfl) rfl ?_
      refine x_nil ?_
      refine thenS_n ?_
      refine wpS_cond_t rfl ?_
      refine wpS_seq ?_
      refine wpS_region ?_
      refine s_y (v := .int .i64 1) (y_assign rfl) rfl ?_
      refine wpL_nil ?_
      refine thenS_n ?_
      refine wpS_ret ?_
      refine thenS_r ?_
      refine fin1 (M := []) (v := .int .i64 1) (.inr rfl) (.nil) Try.results101 rfl ?_
      exact fun w' hs => ⟨congrArg (fun z : Int => Ending.returned (.int .i64 z)) (bad_1 (by omega)).symm, hs⟩
     ·
      have p6 := of_decide_eq_false b6
      refine x_gy (y_fieldAddr (o' := 2) rfl Try.underlying53 rfl Try.sizeOf3 (by decide) rfl) rfl rfl rfl rfl (b' := decide ((p.n2 : Int) < 1)) rfl b6 ?_
      refine x_gy (y_load1 rfl Try.isAgg3 (own1 .h rfl)) rfl rfl rfl rfl (b' := decide ((p.n2 : Int) < 1)) rfl b6 ?_
      refine x_gy (y_gtr (a := p.n2) (b := 8) rfl rfl rfl) rfl rfl rfl rfl (b' := decide ((p.n2 : Int) < 1)) rfl b6 ?_
      refine x_y (v := .bool (decide ((8 : Int) < p.n2))) (y_pickF (b := decide ((p.n2 : Int) < 1)) rfl b6 rfl) rfl ?_
      refine x_y (v := .bool (decide ((8 : Int) < p.n2))) (y_move rfl) rfl ?_
      rcases Bool.eq_false_or_eq_true (decide ((8 : Int) < p.n2)) with b7 | b7
      ·
       have p7 := of_decide_eq_true b7
       refine x_no rfl rfl rfl rfl (b' := decide ((8 : Int) < p.n2)) rfl b7 ?_
       refine x_no rfl rfl rfl rfl (b' := decide ((8 : Int) < p.n2)) rfl b7 ?_
       refine x_no rfl rfl rfl rfl (b' := decide ((8 : Int) < p.n2)) rfl b7 ?_
       refine x_y (v := .bool true) (y_pickT (b := decide ((8 : Int) < p.n2)) rfl b7 rfl) rfl ?_
       refine x_y (v := .bool true) (y_move rfl) rfl ?_
       refine x_no rfl rfl rfl rfl rfl rfl ?_
       refine x_no rfl rfl rfl rfl rfl rfl ?_
       refine x_no rfl rfl rfl rfl rfl rfl ?_
       refine x_y (v := .bool true) (y_pickT rfl rfl rfl) rfl ?_
       refine x_y (v := .bool true) (y_move rfl) rfl ?_
       refine x_no rfl rfl rfl rfl rfl rfl ?_
       refine x_no rfl rfl rfl rfl rfl rfl ?_
       refine x_no rfl rfl rfl rfl rfl rfl ?_
       refine x_no rfl rfl rfl rfl rfl rfl ?_
       refine x_no rfl rfl rfl rfl rfl rfl ?_
       refine x_no rfl rfl rfl rfl rfl rfl ?_
       refine x_no rfl rfl rfl rfl rfl rfl ?_
       refine x_no rfl rfl rfl rfl rfl rfl ?_
       refine x_no rfl rfl rfl rfl rfl rfl ?_
       refine x_no rfl rfl rfl rfl rfl rfl ?_
       refine x_no rfl rfl rfl rfl rfl rfl ?_
       refine x_no rfl rfl rfl rfl rfl rfl ?_
       refine x_no rfl rfl rfl rfl rfl rfl ?_
       refine x_y (v := .bool true) (y_pickT rfl rfl rfl) rfl ?_
       refine x_nil ?_
       refine thenS_n ?_
       refine wpS_cond_t rfl ?_
       refine wpS_seq ?_
       refine wpS_region ?_
       refine s_y (v := .int .i64 1) (y_assign rfl) rfl ?_
       refine wpL_nil ?_
       refine thenS_n ?_
       refine wpS_ret ?_
       refine thenS_r ?_
       refine fin1 (M := []) (v := .int .i64 1) (.inr rfl) (.nil) Try.results101 rfl ?_
       exact fun w' hs => ⟨congrArg (fun z : Int => Ending.returned (.int .i64 z)) (bad_1 (by omega)).symm, hs⟩
      ·
       have p7 := of_decide_eq_false b7
       refine x_gy (y_fieldAddr (o' := 3) rfl Try.underlying53 rfl Try.sizeOf3 (by decide) rfl) rfl rfl rfl rfl (b' := decide ((8 : Int) < p.n2)) rfl b7 ?_
       refine x_gy (y_load1 rfl Try.isAgg3 (own1 .h rfl)) rfl rfl rfl rfl (b' := decide ((8 : Int) < p.n2)) rfl b7 ?_
       refine x_gy (y_lss (a := p.n3) (b := 1) rfl rfl rfl) rfl rfl rfl rfl (b' := decide ((8 : Int) < p.n2)) rfl b7 ?_
       refine x_y (v := .bool (decide ((p.n3 : Int) < 1))) (y_pickF (b := decide ((8 : Int) < p.n2)) rfl b7 rfl) rfl ?_
       refine x_y (v := .bool (decide ((p.n3 : Int) < 1))) (y_move rfl) rfl ?_
       rcases Bool.eq_false_or_eq_true (decide ((p.n3 : Int) < 1)) with b8 | b8
       ·
        have p8 := of_decide_eq_true b8
        refine x_no rfl rfl rfl rfl (b' := decide ((p.n3 : Int) < 1)) rfl b8 ?_
        refine x_no rfl rfl rfl rfl (b' := decide ((p.n3 : Int) < 1)) rfl b8 ?_
        refine x_no rfl rfl rfl rfl (b' := decide ((p.n3 : Int) < 1)) rfl b8 ?_
        refine x_y (v := .bool true) (y_pickT (b := decide ((p.n3 : Int) < 1)) rfl b8 rfl) rfl ?_
        refine x_y (v := .bool true) (y_move rfl) rfl ?_
        refine x_no rfl rfl rfl rfl rfl rfl ?_
        refine x_no rfl rfl rfl rfl rfl rfl ?_
        refine x_no rfl rfl rfl rfl rfl rfl ?_
        refine x_no rfl rfl rfl rfl rfl rfl ?_
        refine x_no rfl rfl rfl rfl rfl rfl ?_
        refine x_no rfl rfl rfl rfl rfl rfl ?_
        refine x_no rfl rfl rfl rfl rfl rfl ?_
        refine x_no rfl rfl rfl rfl rfl rfl ?_
        refine x_no rfl rfl rfl rfl rfl rfl ?_
        refine x_no rfl rfl rfl rfl rfl rfl ?_
        refine x_no rfl rfl rfl rfl rfl rfl ?_
        refine x_no rfl rfl rfl rfl rfl rfl ?_
        refine x_no rfl rfl rfl rfl rfl rfl ?_
        refine x_y (v := .bool true) (y_pickT rfl rfl rfl) rfl ?_
        refine x_nil ?_
        refine thenS_n ?_
        refine wpS_cond_t rfl ?_
        refine wpS_seq ?_
        refine wpS_region ?_
        refine s_y (v := .int .i64 1) (y_assign rfl) rfl ?_
        refine wpL_nil ?_
        refine thenS_n ?_
        refine wpS_ret ?_
        refine thenS_r ?_
        refine fin1 (M := []) (v := .int .i64 1) (.inr rfl) (.nil) Try.results101 rfl ?_
        exact fun w' hs => ⟨congrArg (fun z : Int => Ending.returned (.int .i64 z)) (bad_1 (by omega)).symm, hs⟩
       ·
        have p8 := of_decide_eq_false b8
        refine x_gy (y_fieldAddr (o' := 3) rfl Try.underlying53 rfl Try.sizeOf3 (by decide) rfl) rfl rfl rfl rfl (b' := decide ((p.n3 : Int) < 1)) rfl b8 ?_
        refine x_gy (y_load1 rfl Try.isAgg3 (own1 .h rfl)) rfl rfl rfl rfl (b' := decide ((p.n3 : Int) < 1)) rfl b8 ?_
        refine x_gy (y_gtr (a := p.n3) (b := 4) rfl rfl rfl) rfl rfl rfl rfl (b' := decide ((p.n3 : Int) < 1)) rfl b8 ?_
        refine x_y (v := .bool (decide ((4 : Int) < p.n3))) (y_pickF (b := decide ((p.n3 : Int) < 1)) rfl b8 rfl) rfl ?_
        refine x_y (v := .bool (decide ((4 : Int) < p.n3))) (y_move rfl) rfl ?_
        rcases Bool.eq_false_or_eq_true (decide ((4 : Int) < p.n3)) with b9 | b9
        ·
         have p9 := of_decide_eq_true b9
         refine x_no rfl rfl rfl rfl (b' := decide ((4 : Int) < p.n3)) rfl b9 ?_
         refine x_no rfl rfl rfl rfl (b' := decide ((4 : Int) < p.n3)) rfl b9 ?_
         refine x_no rfl rfl rfl rfl (b' := decide ((4 : Int) < p.n3)) rfl b9 ?_
         refine x_no rfl rfl rfl rfl (b' := decide ((4 : Int) < p.n3)) rfl b9 ?_
         refine x_no rfl rfl rfl rfl (b' := decide ((4 : Int) < p.n3)) rfl b9 ?_
         refine x_no rfl rfl rfl rfl (b' := decide ((4 : Int) < p.n3)) rfl b9 ?_
         refine x_no rfl rfl rfl rfl (b' := decide ((4 : Int) < p.n3)) rfl b9 ?_
         refine x_no rfl rfl rfl rfl (b' := decide ((4 : Int) < p.n3)) rfl b9 ?_
         refine x_no rfl rfl rfl rfl (b' := decide ((4 : Int) < p.n3)) rfl b9 ?_
         refine x_no rfl rfl rfl rfl (b' := decide ((4 : Int) < p.n3)) rfl b9 ?_
         refine x_no rfl rfl rfl rfl (b' := decide ((4 : Int) < p.n3)) rfl b9 ?_
         refine x_no rfl rfl rfl rfl (b' := decide ((4 : Int) < p.n3)) rfl b9 ?_
         refine x_no rfl rfl rfl rfl (b' := decide ((4 : Int) < p.n3)) rfl b9 ?_
         refine x_y (v := .bool true) (y_pickT (b := decide ((4 : Int) < p.n3)) rfl b9 rfl) rfl ?_
         refine x_nil ?_
         refine thenS_n ?_
         refine wpS_cond_t rfl ?_
         refine wpS_seq ?_
         refine wpS_region ?_
         refine s_y (v := .int .i64 1) (y_assign rfl) rfl ?_
         refine wpL_nil ?_
         refine thenS_n ?_
         refine wpS_ret ?_
         refine thenS_r ?_
         refine fin1 (M := []) (v := .int .i64 1) (.inr rfl) (.nil) Try.results101 rfl ?_
         exact fun w' hs => ⟨congrArg (fun z : Int => Ending.returned (.int .i64 z)) (bad_1 (by omega)).symm, hs⟩
        ·
         have p9 := of_decide_eq_false b9
         refine x_gy (y_fieldAddr (o' := 1) rfl Try.underlying53 rfl Try.sizeOf3 (by decide) rfl) rfl rfl rfl rfl (b' := decide ((4 : Int) < p.n3)) rfl b9 ?_
         refine x_gy (y_load1 rfl Try.isAgg3 (own1 .h rfl)) rfl rfl rfl rfl (b' := decide ((4 : Int) < p.n3)) rfl b9 ?_
         refine x_gy (y_fieldAddr (o' := 0) rfl Try.underlying53 rfl Try.sizeOf3 (by decide) rfl) rfl rfl rfl rfl (b' := decide ((4 : Int) < p.n3)) rfl b9 ?_
         refine x_gy (y_load1 rfl Try.isAgg3 (own1 .h rfl)) rfl rfl rfl rfl (b' := decide ((4 : Int) < p.n3)) rfl b9 ?_
         refine x_gy (y_fieldAddr (o' := 2) rfl Try.underlying53 rfl Try.sizeOf3 (by decide) rfl) rfl rfl rfl rfl (b' := decide ((4 : Int) < p.n3)) rfl b9 ?_
         refine x_gy (y_load1 rfl Try.isAgg3 (own1 .h rfl)) rfl rfl rfl rfl (b' := decide ((4 : Int) < p.n3)) rfl b9 ?_
         refine x_gy (y_add (a := p.n0) (b := p.n2) (c := p.n0 + p.n2) rfl rfl (wI rfl (by omega) (by omega))) rfl rfl rfl rfl (b' := decide ((4 : Int) < p.n3)) rfl b9 ?_
         refine x_gy (y_sub (a := p.n0 + p.n2) (b := 1) (c := (p.n0 + p.n2) - 1) rfl rfl (wI rfl (by omega) (by omega))) rfl rfl rfl rfl (b' := decide ((4 : Int) < p.n3)) rfl b9 ?_
         refine x_gy (y_fieldAddr (o' := 2) rfl Try.underlying53 rfl Try.sizeOf3 (by decide) rfl) rfl rfl rfl rfl (b' := decide ((4 : Int) < p.n3)) rfl b9 ?_
         refine x_gy (y_load1 rfl Try.isAgg3 (own1 .h rfl)) rfl rfl rfl rfl (b' := decide ((4 : Int) < p.n3)) rfl b9 ?_
         have hc := cdv_bd (a := p.n0) (b := p.n2) (by omega) (by omega) (by omega)
         refine x_gy (y_quo (a := (p.n0 + p.n2) - 1) (b := p.n2) (c := cdv p.n0 p.n2) rfl rfl (by omega) (up_wrap (by omega) (by omega) (by omega) (by omega))) rfl rfl rfl rfl (b' := decide ((4 : Int) < p.n3)) rfl b9 ?_
         have hnb := nb_bd (a := p.n1) (c := cdv p.n0 p.n2) (by omega) (by omega) (by omega) (by omega)
         refine x_gy (y_mul (a := p.n1) (b := cdv p.n0 p.n2) (c := p.n1 * cdv p.n0 p.n2) rfl rfl (nb_wrap (by omega) (by omega) (by omega) (by omega))) rfl rfl rfl rfl (b' := decide ((4 : Int) < p.n3)) rfl b9 ?_
         refine x_gy (y_geq (a := p.n1 * cdv p.n0 p.n2) (b := 32) rfl rfl rfl) rfl rfl rfl rfl (b' := decide ((4 : Int) < p.n3)) rfl b9 ?_
         refine x_y (v := .bool (decide ((32 : Int) ≤ (p.n1 * cdv p.n0 p.n2)))) (y_pickF (b := decide ((4 : Int) < p.n3)) rfl b9 rfl) rfl ?_
         refine x_nil ?_
         refine thenS_n ?_
         refine wpS_cond (t := decide ((32 : Int) ≤ (p.n1 * cdv p.n0 p.n2))) rfl (fun b10 => ?_) (fun b10 => ?_)
         ·
          have p10 := of_decide_eq_true b10
          refine wpS_seq ?_
          refine wpS_region ?_
          refine s_y (v := .int .i64 1) (y_assign rfl) rfl ?_
          refine wpL_nil ?_
          refine thenS_n ?_
          refine wpS_ret ?_
          refine thenS_r ?_
          refine fin1 (M := []) (v := .int .i64 1) (.inr rfl) (.nil) Try.results101 rfl ?_
          exact fun w' hs => ⟨congrArg (fun z : Int => Ending.returned (.int .i64 z)) (bad_1 (by omega)).symm, hs⟩
         ·
          have p10 := of_decide_eq_false b10
          refine wpS_skip ?_
          refine thenS_n ?_
          refine wpS_seq ?_
          refine wpS_region ?_
          refine s_y (v := .int .i64 0) (y_assign rfl) rfl ?_
          refine wpL_nil ?_
          refine thenS_n ?_
          refine wpS_ret ?_
          refine fin1 (M := []) (v := .int .i64 0) (.inr rfl) (.nil) Try.results101 rfl ?_
          exact fun w' hs => ⟨congrArg (fun z : Int => Ending.returned (.int .i64 z)) (bad_0 (by omega)).symm, hs⟩
theorem blocks_c (p : Par) (w : World) : Pure Try.prog 135 #[.agg #[.int .i64 p.n0, .int .i64 p.n1, .int .i64 p.n2, .int .i64 p.n3]] w (.tuple #[.int .i64 (bk p), .int .i64 (((sl p) : Nat) : Int)]) := by
 refine calls_S (n := 22) (σ0 := (upd fr0 0 (.agg #[.int .i64 p.n0, .int .i64 p.n1, .int .i64 p.n2, .int .i64 p.n3]))) (D := []) (A := []) Try.func135 rfl Try.ntmps135 rfl (a1_fr _) (SH.start w) ?_
 refine wpS_seq ?_
 refine wpS_region ?_
 refine s_e rfl ?_
 refine e_box (v := .agg #[.int .i64 p.n0, .int .i64 p.n1, .int .i64 p.n2, .int .i64 p.n3]) (l := [.int .i64 p.n0, .int .i64 p.n1, .int .i64 p.n2, .int .i64 p.n3]) rfl rfl ?_
 intro b_1
 refine s_y (v := .int .i64 0) (y_assign rfl) rfl ?_
 refine s_y (v := .int .i64 0) (y_assign rfl) rfl ?_
 refine wpL_nil ?_
 refine thenS_n ?_
 refine wpS_seq ?_
 refine wpS_seq ?_
 refine wpS_region ?_
 refine s_y (v := .agg #[.int .i64 p.n0, .int .i64 p.n1, .int .i64 p.n2, .int .i64 p.n3]) (y_loadN rfl Try.isAgg53 Try.sizeOf53 (ownN .h rfl)) rfl ?_
 refine s_y (v := .int .i64 (bad p)) (y_call (args := #[.agg #[.int .i64 p.n0, .int .i64 p.n1, .int .i64 p.n2, .int .i64 p.n3]]) Try.call206 (ev1 rfl) (fun w hs => right_c p w)) rfl ?_
 refine s_y (v := .bool (decide ((bad p : Int) ≠ 0))) (y_neq (a := bad p) (b := 0) rfl rfl rfl) rfl ?_
 refine wpL_nil ?_
 refine thenS_n ?_
 refine wpS_cond (t := decide ((bad p : Int) ≠ 0)) rfl (fun b2 => ?_) (fun b2 => ?_)
 ·
  have p2 := of_decide_eq_true b2
  have hbp : ok p = false := bad_no p2
  refine wpS_seq ?_
  refine wpS_region ?_
  refine s_y (v := .int .i64 0) (y_assign rfl) rfl ?_
  refine s_y (v := .int .i64 0) (y_assign rfl) rfl ?_
  refine wpL_nil ?_
  refine thenS_n ?_
  refine wpS_ret ?_
  refine thenS_r ?_
  refine fin2 (M := []) (.inr rfl) (.nil) Try.results135 (rvT (v := .int .i64 0) rfl) (rvT (v := .int .i64 0) rfl) ?_
  exact fun w' hs => ⟨by rw [bk_no hbp, sl_no hbp] <;> rfl, hs⟩
 ·
  have p2 := of_decide_eq_false b2
  have hbp : ok p = true := bad_yes (Decidable.not_not.1 p2)
  have hbd := ok_bd hbp
  refine wpS_skip ?_
  refine thenS_n ?_
  refine wpS_seq ?_
  refine wpS_region ?_
  refine s_y (v := .pointer (some ⟨b_1, 0, none⟩)) (y_fieldAddr (o' := 0) rfl Try.underlying53 rfl Try.sizeOf3 (by decide) rfl) rfl ?_
  refine s_y (v := .int .i64 p.n0) (y_load1 rfl Try.isAgg3 (own1 .h rfl)) rfl ?_
  refine s_y (v := .int .i64 (p.n0 - 1)) (y_sub (a := p.n0) (b := 1) rfl rfl (wI rfl (by omega) (by omega))) rfl ?_
  refine s_y (v := .pointer (some ⟨b_1, 2, none⟩)) (y_fieldAddr (o' := 2) rfl Try.underlying53 rfl Try.sizeOf3 (by decide) rfl) rfl ?_
  refine s_y (v := .int .i64 p.n2) (y_load1 rfl Try.isAgg3 (own1 .h rfl)) rfl ?_
  have hq := q_bd (a := p.n0) (b := p.n2) (by omega) (by omega) (by omega)
  refine s_y (v := .int .i64 ((p.n0 - 1) / p.n2)) (y_quo (a := p.n0 - 1) (b := p.n2) rfl rfl (by omega) (q_wrap (by omega) (by omega) (by omega))) rfl ?_
  have hc := cdv_bd (a := p.n0) (b := p.n2) (by omega) (by omega) (by omega)
  refine s_y (v := .int .i64 (cdv p.n0 p.n2)) (y_add (a := (p.n0 - 1) / p.n2) (b := 1) rfl rfl (wI rfl (by omega) (by omega))) rfl ?_
  refine s_y (v := .int .i64 (cdv p.n0 p.n2)) (y_assign rfl) rfl ?_
  refine wpL_nil ?_
  refine thenS_n ?_
  refine wpS_seq ?_
  refine wpS_region ?_
  refine s_y (v := .int .i64 (cdv p.n0 p.n2)) (y_move rfl) rfl ?_
  refine s_y (v := .pointer (some ⟨b_1, 1, none⟩)) (y_fieldAddr (o' := 1) rfl Try.underlying53 rfl Try.sizeOf3 (by decide) rfl) rfl ?_
  refine s_y (v := .int .i64 p.n1) (y_load1 rfl Try.isAgg3 (own1 .h rfl)) rfl ?_
  refine s_y (v := .int .i64 (cdv p.n0 p.n2)) (y_move rfl) rfl ?_
  have hnb := nb_bd (a := p.n1) (c := cdv p.n0 p.n2) (by omega) (by omega) (by omega) (by omega)
  refine s_y (v := .int .i64 (p.n1 * cdv p.n0 p.n2)) (y_mul (a := p.n1) (b := cdv p.n0 p.n2) rfl rfl (nb_wrap (by omega) (by omega) (by omega) (by omega))) rfl ?_
  refine s_y (v := .int .i64 ((p.n1 * cdv p.n0 p.n2) + 1)) (y_add (a := p.n1 * cdv p.n0 p.n2) (b := 1) rfl rfl (wI rfl (by omega) (by omega))) rfl ?_
  refine s_y (v := .int .i64 (((pad ((p.n1 * cdv p.n0 p.n2) + 1)) : Nat) : Int)) (y_call (args := #[.int .i64 ((p.n1 * cdv p.n0 p.n2) + 1)]) Try.call50 (ev1 rfl) (fun w hs => padded_c ((p.n1 * cdv p.n0 p.n2) + 1) (by omega) (by omega) w)) rfl ?_
  refine s_y (v := .int .i64 (cdv p.n0 p.n2)) (y_assign rfl) rfl ?_
  refine s_y (v := .int .i64 (((pad ((p.n1 * cdv p.n0 p.n2) + 1)) : Nat) : Int)) (y_assign rfl) rfl ?_
  refine wpL_nil ?_
  refine thenS_n ?_
  refine wpS_ret ?_
  refine fin2 (M := []) (.inr rfl) (.nil) Try.results135 (rvT (v := .int .i64 (cdv p.n0 p.n2)) rfl) (rvT (v := .int .i64 (((pad ((p.n1 * cdv p.n0 p.n2) + 1)) : Nat) : Int)) rfl) ?_
  exact fun w' hs => ⟨by rw [bk_yes hbp, sl_yes hbp] <;> rfl, hs⟩
end Go.Proofs.Ytldkjjnjdjfipaa
