/- What a program maps, folds and finishes; walked. -/
import Derived.Test.YtldkjjnjdjfipaaWVm1
import Derived.Test.YtldkjjnjdjfipaaWRec
import Derived.Test.YtldkjjnjdjfipaaP11b
namespace Go.Proofs.Ytldkjjnjdjfipaa
open Go Go.RowKit
set_option linter.unusedVariables false
set_option linter.unusedSimpArgs false
set_option maxRecDepth 10000
set_option maxHeartbeats 1000000

def doneC (b : Bool) (l : List Opc) (u v : Int64) : Int64 := if b = true then doneP l u v else 0
def mapC (b : Bool) (k : Int) (l : List Opc) (nn u v : Int64) : List Rec := if b = true then mapP k l nn u v else []
def fewO (a b c : List Opc) : Bool := decide (a.length < 200 ∧ b.length < 200 ∧ c.length < 200)
theorem chk_no {k : Int} {a b c : List Opc} (h : ¬ chk11 k a b c = 0) : chkB k a b c = false := by
  unfold chk11 at h
  split at h
  · exact absurd rfl h
  · exact Bool.eq_false_iff.2 (by assumption)
theorem i_mulZ {u : Int64} {k : Int} (h1 : 1 ≤ k) (h2 : k ≤ 4) : IntKind.i64.wrap (u.toInt * k) = (u * Int64.ofInt k).toInt := by
  have e : k = (Int64.ofInt k).toInt := by
    have : k = 1 ∨ k = 2 ∨ k = 3 ∨ k = 4 := by omega
    rcases this with h | h | h | h <;> subst h <;> rfl
  have h3 := i_mul u (Int64.ofInt k)
  rw [← e] at h3
  exact h3
theorem mapC_len {k : Int} {a b c l : List Opc} {nn u v : Int64} : (mapC (chkB k a b c) k l nn u v).length ≤ 4 := by
  unfold mapC
  split
  · have h := chk_bd (by assumption)
    unfold mapP
    rw [runM_s]
    show (List.replicate k.toNat deadR).length ≤ 4
    rw [List.length_replicate]
    omega
  · simp
theorem rep_next (j : Nat) : List.replicate j deadR ++ [Rec.mk true 0 0 0] = List.replicate (j + 1) deadR := List.replicate_succ'.symm

theorem done_c (k : Int) (a1 a2 a3 : Option Addr) (n1 c1 n2 c2 n3 c3 : Nat) (l1 l2 l3 : List Opc) (ga : Option Addr) (gn gc : Nat) (l : List Opc) (u v : Int64) (w : World) (hn1 : l1.length = n1) (hr1 : Rds w a1 (l1.flatMap opcV)) (hb1 : n1 ≤ 1000000) (hn2 : l2.length = n2) (hr2 : Rds w a2 (l2.flatMap opcV)) (hb2 : n2 ≤ 1000000) (hn3 : l3.length = n3) (hr3 : Rds w a3 (l3.flatMap opcV)) (hb3 : n3 ≤ 1000000) (hn : l.length = gn) (hr : Rds w ga (l.flatMap opcV)) (hb : gn ≤ 1000000) (hd : chkB k l1 l2 l3 = true → partOk 0 l = true) : Pure Try.prog 175 #[.agg #[.int .i64 k, .slice a1 n1 c1, .slice a2 n2 c2, .slice a3 n3 c3], .slice ga gn gc, .int .i64 (u.toInt), .int .i64 (v.toInt)] w (.int .i64 ((doneC (chkB k l1 l2 l3) l u v).toInt)) := by
  refine calls_S (n := 33) (σ0 := (upd (upd (upd (upd fr0 0 (.agg #[.int .i64 k, .slice a1 n1 c1, .slice a2 n2 c2, .slice a3 n3 c3])) 1 (.slice ga gn gc)) 2 (.int .i64 (u.toInt))) 3 (.int .i64 (v.toInt)))) (D := []) (A := []) Try.func175 rfl Try.ntmps175 rfl (a4_fr _ _ _ _) (SH.start w) ?_
  refine wpS_seq ?_
  refine wpS_region ?_
  refine s_e rfl ?_
  refine e_box (v := .agg #[.int .i64 k, .slice a1 n1 c1, .slice a2 n2 c2, .slice a3 n3 c3]) (l := [.int .i64 k, .slice a1 n1 c1, .slice a2 n2 c2, .slice a3 n3 c3]) rfl rfl ?_
  intro b_1
  refine s_y (v := .int .i64 0) (y_assign rfl) rfl ?_
  refine wpL_nil ?_
  refine thenS_n ?_
  refine wpS_seq ?_
  refine wpS_seq ?_
  refine wpS_region ?_
  refine s_y (v := .agg #[.int .i64 k, .slice a1 n1 c1, .slice a2 n2 c2, .slice a3 n3 c3]) (y_loadN (vs := [.int .i64 k, .slice a1 n1 c1, .slice a2 n2 c2, .slice a3 n3 c3]) rfl Try.isAgg84 Try.sizeOf84 (ownN .h rfl)) rfl ?_
  refine s_y (v := .int .i64 (chk11 k l1 l2 l3)) (y_call (args := #[.agg #[.int .i64 k, .slice a1 n1 c1, .slice a2 n2 c2, .slice a3 n3 c3]]) (v := .int .i64 (chk11 k l1 l2 l3)) Try.call84 (ev1 rfl) (fun w hs => check_c k a1 a2 a3 n1 c1 n2 c2 n3 c3 l1 l2 l3 w hn1 ((oldR hr1) w hs) (by omega) hn2 ((oldR hr2) w hs) (by omega) hn3 ((oldR hr3) w hs) (by omega))) rfl ?_
  refine s_y (v := .bool (decide ((chk11 k l1 l2 l3 : Int) ≠ 0))) (y_neq (a := chk11 k l1 l2 l3) (b := 0) rfl rfl rfl) rfl ?_
  refine wpL_nil ?_
  refine thenS_n ?_
  refine wpS_cond (t := decide ((chk11 k l1 l2 l3 : Int) ≠ 0)) rfl (fun b2 => ?_) (fun b2 => ?_)
  · -- decide ((chk11 k l1 l2 l3 : Int) ≠ 0) true
    have p2 := of_decide_eq_true b2
    have hno : chkB k l1 l2 l3 = false := chk_no p2
    refine wpS_seq ?_
    refine wpS_region ?_
    refine s_y (v := .int .i64 0) (y_assign rfl) rfl ?_
    refine wpL_nil ?_
    refine thenS_n ?_
    refine wpS_ret ?_
    refine thenS_r ?_
    refine fin1 (v := .int .i64 0) (.inr rfl) (.nil) Try.results175 rfl ?_
    exact fun w' hs => ⟨congrArg (fun z : Int64 => Ending.returned (.int .i64 z.toInt)) ((by unfold doneC; rw [if_neg (by rw [hno]; decide)] : (0 : Int64) = _)), hs⟩
  · -- decide ((chk11 k l1 l2 l3 : Int) ≠ 0) false
    have p2 := of_decide_eq_false b2
    have hok : chkB k l1 l2 l3 = true := chk_yes (Decidable.not_not.1 p2)
    obtain ⟨hk1, hk4, hp1, hp2, hp3⟩ := chk_bd hok
    refine wpS_skip ?_
    refine thenS_n ?_
    refine wpS_seq ?_
    refine wpS_region ?_
    refine s_y (v := .agg #[.int .i64 0, .int .i64 0, .int .i64 0, .int .i64 0, .int .i64 0, .int .i64 0, .int .i64 0, .int .i64 0, .slice none 0 0, .int .i64 0]) (y_buildL (m := []) (vs := #[.int .i64 0, .int .i64 0, .int .i64 0, .int .i64 0, .int .i64 0, .int .i64 0, .int .i64 0, .int .i64 0, .slice none 0 0, .int .i64 0]) evn (fun w => by kernel_rfl)) rfl ?_
    refine s_e rfl ?_
    refine e_box (v := .agg #[.int .i64 0, .int .i64 0, .int .i64 0, .int .i64 0, .int .i64 0, .int .i64 0, .int .i64 0, .int .i64 0, .slice none 0 0, .int .i64 0]) (l := [.int .i64 0, .int .i64 0, .int .i64 0, .int .i64 0, .int .i64 0, .int .i64 0, .int .i64 0, .int .i64 0, .slice none 0 0, .int .i64 0]) rfl rfl ?_
    intro b_3
    refine s_y (v := .pointer (some ⟨b_3, 0, none⟩)) (y_assign rfl) rfl ?_
    refine wpL_nil ?_
    refine thenS_n ?_
    refine wpS_seq ?_
    refine wpS_anyL [] [] (by kernel_rfl) ?_
    refine anyS_take (i := 0) rfl (by kernel_rfl) (by kernel_rfl) (by kernel_rfl) (by kernel_rfl) (Yq.of (v := .pointer (some ⟨b_3, 0, none⟩)) (y_move rfl) rfl) (.nil) ?_
    refine anyS_take (i := 1) rfl (by kernel_rfl) (by kernel_rfl) (by kernel_rfl) (by kernel_rfl) (Yq.of (v := .pointer (some ⟨b_3, 0, none⟩)) (y_move rfl) rfl) (.nil) ?_
    refine anyS_take (i := 2) rfl (by kernel_rfl) (by kernel_rfl) (by kernel_rfl) (by kernel_rfl) (Yq.of (v := .int .i64 (u.toInt)) (y_move rfl) rfl) (.nil) ?_
    refine anyS_take (i := 3) rfl (by kernel_rfl) (by kernel_rfl) (by kernel_rfl) (by kernel_rfl) (Yq.of (v := .int .i64 (v.toInt)) (y_move rfl) rfl) (.nil) ?_
    refine anyS_take (i := 4) rfl (by kernel_rfl) (by kernel_rfl) (by kernel_rfl) (by kernel_rfl) (Yq.of (v := .pointer (some ⟨b_3, 0, none⟩)) (y_nilP rfl) rfl) (.nil) ?_
    refine anyS_take (i := 5) rfl (by kernel_rfl) (by kernel_rfl) (by kernel_rfl) (by kernel_rfl) (Yq.of (v := .pointer (some ⟨b_3, 0, none⟩)) (y_fieldAddr (o' := 0) rfl Try.underlying201 rfl Try.sizeOf199 (by decide) rfl) rfl) (.nil) ?_
    refine anyS_take (i := 6) rfl (by kernel_rfl) (by kernel_rfl) (by kernel_rfl) (by kernel_rfl) (Yq.of (v := .pointer (some ⟨b_3, 0, none⟩)) (y_idxA (o' := 0) rfl rfl Try.underlying199 Try.sizeOf2 (by decide) (by decide) (by decide)) rfl) (.nil) ?_
    refine anyS_take (i := 8) rfl (by kernel_rfl) (by kernel_rfl) (by kernel_rfl) (by kernel_rfl) (Yq.of (v := .pointer (some ⟨b_3, 0, none⟩)) (y_nilP rfl) rfl) (.nil) ?_
    refine anyS_take (i := 9) rfl (by kernel_rfl) (by kernel_rfl) (by kernel_rfl) (by kernel_rfl) (Yq.of (v := .pointer (some ⟨b_3, 0, none⟩)) (y_fieldAddr (o' := 0) rfl Try.underlying201 rfl Try.sizeOf199 (by decide) rfl) rfl) (.nil) ?_
    refine anyS_all (rs := [7]) (by kernel_rfl) (by simp) ?_
    intro i hi; obtain rfl := List.mem_singleton.1 hi; clear hi
    refine opS_0 rfl rfl ?_
    refine e_store (vs := [.int .i64 (u.toInt)]) (l' := [.int .i64 (u.toInt), .int .i64 0, .int .i64 0, .int .i64 0, .int .i64 0, .int .i64 0, .int .i64 0, .int .i64 0, .slice none 0 0, .int .i64 0]) rfl rfl rfl rfl Try.sizeOf2 .h (Nat.le_of_ble_eq_true rfl) rfl ?_
    refine ⟨.inr (.nil), ?_⟩
    refine anyS_take (i := 10) rfl (by kernel_rfl) (by kernel_rfl) (by kernel_rfl) (by kernel_rfl) (Yq.of (v := .pointer (some ⟨b_3, 1, none⟩)) (y_idxA (o' := 1) rfl rfl Try.underlying199 Try.sizeOf2 (by decide) (by decide) (by decide)) rfl) (.nil) ?_
    refine anyS_all (rs := [11]) (by kernel_rfl) (by simp) ?_
    intro i hi; obtain rfl := List.mem_singleton.1 hi; clear hi
    refine opS_0 rfl rfl ?_
    refine e_store (vs := [.int .i64 (v.toInt)]) (l' := [.int .i64 (u.toInt), .int .i64 (v.toInt), .int .i64 0, .int .i64 0, .int .i64 0, .int .i64 0, .int .i64 0, .int .i64 0, .slice none 0 0, .int .i64 0]) rfl rfl rfl rfl Try.sizeOf2 .h (Nat.le_of_ble_eq_true rfl) rfl ?_
    refine ⟨.inr (.nil), ?_⟩
    refine anyS_done (by kernel_rfl) ?_
    refine thenS_n ?_
    refine wpS_seq ?_
    refine wpS_region ?_
    refine s_y (v := .pointer (some ⟨b_3, 0, none⟩)) (y_move rfl) rfl ?_
    refine s_y (v := .slice ga gn gc) (y_move rfl) rfl ?_
    refine s_e rfl ?_
    refine OpE.ent (fun w hs => SH.nil0 (sz := 4) (t := 23) w hs) ?_
    refine OpE.ent (L' := [osl none 0 0 4 23 (([] : List Rec).flatMap recV), cel b_3 201 (macV ([u, v, 0, 0, 0, 0, 0, 0] : List Int64) none 0 0 0), cel b_1 84 [.int .i64 k, .slice a1 n1 c1, .slice a2 n2 c2, .slice a3 n3 c3]]) (fun w hs => hs) ?_
    refine e_call (f := 173) (args := #[.pointer (some ⟨b_3, 0, none⟩), .slice ga gn gc]) (X := Unit) (A := [cel b_3 201 (macV ([u, v, 0, 0, 0, 0, 0, 0] : List Int64) none 0 0 0), osl none 0 0 4 23 (([] : List Rec).flatMap recV)]) (M := [cel b_1 84 [.int .i64 k, .slice a1 n1 c1, .slice a2 n2 c2, .slice a3 n3 c3]]) (V := fun _ => .tuple #[]) (A' := fun _ => [cel b_3 201 (macV ((runM 0 ⟨([u, v, 0, 0, 0, 0, 0, 0] : List Int64), ([] : List Rec)⟩ l).r) none 0 0 0), osl none 0 0 4 23 (((runM 0 ⟨([u, v, 0, 0, 0, 0, 0, 0] : List Int64), ([] : List Rec)⟩ l).s).flatMap recV)]) (C := fun _ => True) Try.call173 (ev2 rfl rfl) (.p (.t .h) (.p .h (.p .h .nil))) (fun w hs => (run_c b_3 ([u, v, 0, 0, 0, 0, 0, 0] : List Int64) none 0 0 ([] : List Rec) 0 ga gn gc l 0 w rfl (by first | rfl | omega | (simp; done)) rfl (hd hok) hn (by first | omega | (simp; omega)) ((oldR hr) w hs) (fun hl => (show _ ∧ _ from apOld hs (rdBlk hr hl) (by simp)).2) (SH.lend hs)).mono (fun e w2 hx => ⟨(), hx.1, hx.2, trivial⟩)) ?_
    rintro ⟨⟩ -
    have hrl5 : (runM 0 ⟨([u, v, 0, 0, 0, 0, 0, 0] : List Int64), ([] : List Rec)⟩ l).r.length = 8 := (runM_r _ _ _).trans rfl
    have hsl6 : (runM 0 ⟨([u, v, 0, 0, 0, 0, 0, 0] : List Int64), ([] : List Rec)⟩ l).s.length = 0 := (runM_s _ _ _).trans (by first | rfl | (show _ = _; omega))
    refine wpL_nil ?_
    refine thenS_n ?_
    refine wpS_seq ?_
    refine wpS_region ?_
    refine s_y (v := .pointer (some ⟨b_3, 0, none⟩)) (y_move rfl) rfl ?_
    refine s_y (v := .pointer (some ⟨b_3, 0, none⟩)) (y_nilP rfl) rfl ?_
    refine s_y (v := .pointer (some ⟨b_3, 0, none⟩)) (y_fieldAddr (o' := 0) rfl Try.underlying201 rfl Try.sizeOf199 (by decide) rfl) rfl ?_
    refine s_y (v := .pointer (some ⟨b_3, 0, none⟩)) (y_idxA (o' := 0) rfl rfl Try.underlying199 Try.sizeOf2 (by decide) (by decide) (by decide)) rfl ?_
    refine s_y (v := .int .i64 (((((runM 0 ⟨([u, v, 0, 0, 0, 0, 0, 0] : List Int64), ([] : List Rec)⟩ l).r).getD 0 0)).toInt)) (y_load1 (v := .int .i64 (((((runM 0 ⟨([u, v, 0, 0, 0, 0, 0, 0] : List Int64), ([] : List Rec)⟩ l).r).getD 0 0)).toInt)) rfl Try.isAgg2 (own1 .h rfl)) rfl ?_
    refine s_y (v := .int .i64 (((((runM 0 ⟨([u, v, 0, 0, 0, 0, 0, 0] : List Int64), ([] : List Rec)⟩ l).r).getD 0 0)).toInt)) (y_assign rfl) rfl ?_
    refine wpL_nil ?_
    refine thenS_n ?_
    refine wpS_ret ?_
    refine fin1 (v := .int .i64 (((((runM 0 ⟨([u, v, 0, 0, 0, 0, 0, 0] : List Int64), ([] : List Rec)⟩ l).r).getD 0 0)).toInt)) (.inr rfl) (.nil) Try.results175 rfl ?_
    exact fun w' hs => ⟨congrArg (fun z : Int64 => Ending.returned (.int .i64 z.toInt)) ((by unfold doneC; rw [if_pos hok]; rfl)), hs⟩

theorem fold_c (k : Int) (a1 a2 a3 : Option Addr) (n1 c1 n2 c2 n3 c3 : Nat) (l1 l2 l3 : List Opc) (u v : Int64) (w : World) (hn1 : l1.length = n1) (hr1 : Rds w a1 (l1.flatMap opcV)) (hb1 : n1 ≤ 1000000) (hn2 : l2.length = n2) (hr2 : Rds w a2 (l2.flatMap opcV)) (hb2 : n2 ≤ 1000000) (hn3 : l3.length = n3) (hr3 : Rds w a3 (l3.flatMap opcV)) (hb3 : n3 ≤ 1000000) : Pure Try.prog 85 #[.agg #[.int .i64 k, .slice a1 n1 c1, .slice a2 n2 c2, .slice a3 n3 c3], .int .i64 (u.toInt), .int .i64 (v.toInt)] w (.int .i64 ((doneC (chkB k l1 l2 l3) l2 u v).toInt)) := by
  refine calls_S (n := 13) (σ0 := (upd (upd (upd fr0 0 (.agg #[.int .i64 k, .slice a1 n1 c1, .slice a2 n2 c2, .slice a3 n3 c3])) 1 (.int .i64 (u.toInt))) 2 (.int .i64 (v.toInt)))) (D := []) (A := []) Try.func85 rfl Try.ntmps85 rfl (a3_fr _ _ _) (SH.start w) ?_
  refine wpS_seq ?_
  refine wpS_region ?_
  refine s_e rfl ?_
  refine e_box (v := .agg #[.int .i64 k, .slice a1 n1 c1, .slice a2 n2 c2, .slice a3 n3 c3]) (l := [.int .i64 k, .slice a1 n1 c1, .slice a2 n2 c2, .slice a3 n3 c3]) rfl rfl ?_
  intro b_1
  refine s_y (v := .int .i64 0) (y_assign rfl) rfl ?_
  refine wpL_nil ?_
  refine thenS_n ?_
  refine wpS_seq ?_
  refine wpS_region ?_
  refine s_y (v := .agg #[.int .i64 k, .slice a1 n1 c1, .slice a2 n2 c2, .slice a3 n3 c3]) (y_loadN (vs := [.int .i64 k, .slice a1 n1 c1, .slice a2 n2 c2, .slice a3 n3 c3]) rfl Try.isAgg84 Try.sizeOf84 (ownN .h rfl)) rfl ?_
  refine s_y (v := .pointer (some ⟨b_1, 2, none⟩)) (y_fieldAddr (o' := 2) rfl Try.underlying84 rfl Try.sizeOf82 (by decide) rfl) rfl ?_
  refine s_y (v := .slice a2 n2 c2) (y_load1 rfl Try.isAgg82 (own1 .h rfl)) rfl ?_
  refine s_y (v := .int .i64 (u.toInt)) (y_move rfl) rfl ?_
  refine s_y (v := .int .i64 (v.toInt)) (y_move rfl) rfl ?_
  refine s_y (v := .int .i64 (((doneC (chkB k l1 l2 l3) l2 u v)).toInt)) (y_call (args := #[.agg #[.int .i64 k, .slice a1 n1 c1, .slice a2 n2 c2, .slice a3 n3 c3], .slice a2 n2 c2, .int .i64 (u.toInt), .int .i64 (v.toInt)]) (v := .int .i64 (((doneC (chkB k l1 l2 l3) l2 u v)).toInt)) Try.call175 (ev4 rfl rfl rfl rfl) (fun w hs => done_c k a1 a2 a3 n1 c1 n2 c2 n3 c3 l1 l2 l3 a2 n2 c2 l2 u v w hn1 ((oldR hr1) w hs) (by omega) hn2 ((oldR hr2) w hs) (by omega) hn3 ((oldR hr3) w hs) (by omega) hn2 ((oldR hr2) w hs) (by omega) (fun h => (chk_bd h).2.2.2.1))) rfl ?_
  refine s_y (v := .int .i64 (((doneC (chkB k l1 l2 l3) l2 u v)).toInt)) (y_assign rfl) rfl ?_
  refine wpL_nil ?_
  refine thenS_n ?_
  refine wpS_ret ?_
  refine fin1 (M := []) (v := .int .i64 (((doneC (chkB k l1 l2 l3) l2 u v)).toInt)) (.inr rfl) (.nil) Try.results85 rfl ?_
  exact fun w' hs => ⟨rfl, hs⟩

theorem finish_c (k : Int) (a1 a2 a3 : Option Addr) (n1 c1 n2 c2 n3 c3 : Nat) (l1 l2 l3 : List Opc) (u v : Int64) (w : World) (hn1 : l1.length = n1) (hr1 : Rds w a1 (l1.flatMap opcV)) (hb1 : n1 ≤ 1000000) (hn2 : l2.length = n2) (hr2 : Rds w a2 (l2.flatMap opcV)) (hb2 : n2 ≤ 1000000) (hn3 : l3.length = n3) (hr3 : Rds w a3 (l3.flatMap opcV)) (hb3 : n3 ≤ 1000000) : Pure Try.prog 89 #[.agg #[.int .i64 k, .slice a1 n1 c1, .slice a2 n2 c2, .slice a3 n3 c3], .int .i64 (u.toInt), .int .i64 (v.toInt)] w (.int .i64 ((doneC (chkB k l1 l2 l3) l3 v u).toInt)) := by
  refine calls_S (n := 13) (σ0 := (upd (upd (upd fr0 0 (.agg #[.int .i64 k, .slice a1 n1 c1, .slice a2 n2 c2, .slice a3 n3 c3])) 1 (.int .i64 (u.toInt))) 2 (.int .i64 (v.toInt)))) (D := []) (A := []) Try.func89 rfl Try.ntmps89 rfl (a3_fr _ _ _) (SH.start w) ?_
  refine wpS_seq ?_
  refine wpS_region ?_
  refine s_e rfl ?_
  refine e_box (v := .agg #[.int .i64 k, .slice a1 n1 c1, .slice a2 n2 c2, .slice a3 n3 c3]) (l := [.int .i64 k, .slice a1 n1 c1, .slice a2 n2 c2, .slice a3 n3 c3]) rfl rfl ?_
  intro b_1
  refine s_y (v := .int .i64 0) (y_assign rfl) rfl ?_
  refine wpL_nil ?_
  refine thenS_n ?_
  refine wpS_seq ?_
  refine wpS_region ?_
  refine s_y (v := .agg #[.int .i64 k, .slice a1 n1 c1, .slice a2 n2 c2, .slice a3 n3 c3]) (y_loadN (vs := [.int .i64 k, .slice a1 n1 c1, .slice a2 n2 c2, .slice a3 n3 c3]) rfl Try.isAgg84 Try.sizeOf84 (ownN .h rfl)) rfl ?_
  refine s_y (v := .pointer (some ⟨b_1, 3, none⟩)) (y_fieldAddr (o' := 3) rfl Try.underlying84 rfl Try.sizeOf82 (by decide) rfl) rfl ?_
  refine s_y (v := .slice a3 n3 c3) (y_load1 rfl Try.isAgg82 (own1 .h rfl)) rfl ?_
  refine s_y (v := .int .i64 (v.toInt)) (y_move rfl) rfl ?_
  refine s_y (v := .int .i64 (u.toInt)) (y_move rfl) rfl ?_
  refine s_y (v := .int .i64 (((doneC (chkB k l1 l2 l3) l3 v u)).toInt)) (y_call (args := #[.agg #[.int .i64 k, .slice a1 n1 c1, .slice a2 n2 c2, .slice a3 n3 c3], .slice a3 n3 c3, .int .i64 (v.toInt), .int .i64 (u.toInt)]) (v := .int .i64 (((doneC (chkB k l1 l2 l3) l3 v u)).toInt)) Try.call175 (ev4 rfl rfl rfl rfl) (fun w hs => done_c k a1 a2 a3 n1 c1 n2 c2 n3 c3 l1 l2 l3 a3 n3 c3 l3 v u w hn1 ((oldR hr1) w hs) (by omega) hn2 ((oldR hr2) w hs) (by omega) hn3 ((oldR hr3) w hs) (by omega) hn3 ((oldR hr3) w hs) (by omega) (fun h => (chk_bd h).2.2.2.2))) rfl ?_
  refine s_y (v := .int .i64 (((doneC (chkB k l1 l2 l3) l3 v u)).toInt)) (y_assign rfl) rfl ?_
  refine wpL_nil ?_
  refine thenS_n ?_
  refine wpS_ret ?_
  refine fin1 (M := []) (v := .int .i64 (((doneC (chkB k l1 l2 l3) l3 v u)).toInt)) (.inr rfl) (.nil) Try.results89 rfl ?_
  exact fun w' hs => ⟨rfl, hs⟩

theorem map_c (k : Int) (a1 a2 a3 : Option Addr) (n1 c1 n2 c2 n3 c3 : Nat) (l1 l2 l3 : List Opc) (nn u v : Int64) (w : World) (hn1 : l1.length = n1) (hr1 : Rds w a1 (l1.flatMap opcV)) (hb1 : n1 ≤ 1000000) (hn2 : l2.length = n2) (hr2 : Rds w a2 (l2.flatMap opcV)) (hb2 : n2 ≤ 1000000) (hn3 : l3.length = n3) (hr3 : Rds w a3 (l3.flatMap opcV)) (hb3 : n3 ≤ 1000000) : MakesS Try.prog 83 #[.agg #[.int .i64 k, .slice a1 n1 c1, .slice a2 n2 c2, .slice a3 n3 c3], .int .i64 nn.toInt, .agg #[.int .i64 u.toInt, .int .i64 v.toInt]] w [] recV 4 23 (mapC (chkB k l1 l2 l3) k l1 nn u v) := by
  refine calls_S (n := 57) (σ0 := (upd (upd (upd fr0 0 (.agg #[.int .i64 k, .slice a1 n1 c1, .slice a2 n2 c2, .slice a3 n3 c3])) 1 (.int .i64 (nn.toInt))) 2 (.agg #[.int .i64 (u.toInt), .int .i64 (v.toInt)]))) (D := []) (A := []) Try.func83 rfl Try.ntmps83 rfl (a3_fr _ _ _) (SH.start w) ?_
  refine wpS_seq ?_
  refine wpS_region ?_
  refine s_e rfl ?_
  refine e_box (v := .agg #[.int .i64 k, .slice a1 n1 c1, .slice a2 n2 c2, .slice a3 n3 c3]) (l := [.int .i64 k, .slice a1 n1 c1, .slice a2 n2 c2, .slice a3 n3 c3]) rfl rfl ?_
  intro b_1
  refine s_e rfl ?_
  refine e_box (v := .agg #[.int .i64 (u.toInt), .int .i64 (v.toInt)]) (l := [.int .i64 (u.toInt), .int .i64 (v.toInt)]) rfl rfl ?_
  intro b_2
  refine s_y (v := .slice none 0 0) (y_assign rfl) rfl ?_
  refine wpL_nil ?_
  refine thenS_n ?_
  refine wpS_seq ?_
  refine wpS_seq ?_
  refine wpS_region ?_
  refine s_y (v := .agg #[.int .i64 k, .slice a1 n1 c1, .slice a2 n2 c2, .slice a3 n3 c3]) (y_loadN (vs := [.int .i64 k, .slice a1 n1 c1, .slice a2 n2 c2, .slice a3 n3 c3]) rfl Try.isAgg84 Try.sizeOf84 (ownN (.t .h) rfl)) rfl ?_
  refine s_y (v := .int .i64 (chk11 k l1 l2 l3)) (y_call (args := #[.agg #[.int .i64 k, .slice a1 n1 c1, .slice a2 n2 c2, .slice a3 n3 c3]]) (v := .int .i64 (chk11 k l1 l2 l3)) Try.call84 (ev1 rfl) (fun w hs => check_c k a1 a2 a3 n1 c1 n2 c2 n3 c3 l1 l2 l3 w hn1 ((oldR hr1) w hs) (by omega) hn2 ((oldR hr2) w hs) (by omega) hn3 ((oldR hr3) w hs) (by omega))) rfl ?_
  refine s_y (v := .bool (decide ((chk11 k l1 l2 l3 : Int) ≠ 0))) (y_neq (a := chk11 k l1 l2 l3) (b := 0) rfl rfl rfl) rfl ?_
  refine wpL_nil ?_
  refine thenS_n ?_
  refine wpS_cond (t := decide ((chk11 k l1 l2 l3 : Int) ≠ 0)) rfl (fun b3 => ?_) (fun b3 => ?_)
  · -- decide ((chk11 k l1 l2 l3 : Int) ≠ 0) true
    have p3 := of_decide_eq_true b3
    have hno : chkB k l1 l2 l3 = false := chk_no p3
    refine wpS_seq ?_
    refine wpS_region ?_
    refine s_y (v := .slice none 0 0) (y_assign rfl) rfl ?_
    refine wpL_nil ?_
    refine thenS_n ?_
    refine wpS_ret ?_
    refine thenS_r ?_
    refine finNil (.inr rfl) .nil Try.results83 rfl (sz := 4) (ty := 23) ?_
    exact fun w' hs => ⟨(none, 0), by rw [show (mapC (chkB k l1 l2 l3) k l1 nn u v) = [] from (by unfold mapC; rw [if_neg (by rw [hno]; decide)])]; rfl, by rw [show (mapC (chkB k l1 l2 l3) k l1 nn u v) = [] from (by unfold mapC; rw [if_neg (by rw [hno]; decide)])]; exact hs, trivial⟩
  · -- decide ((chk11 k l1 l2 l3 : Int) ≠ 0) false
    have p3 := of_decide_eq_false b3
    have hok : chkB k l1 l2 l3 = true := chk_yes (Decidable.not_not.1 p3)
    obtain ⟨hk1, hk4, hp1, hp2, hp3⟩ := chk_bd hok
    refine wpS_skip ?_
    refine thenS_n ?_
    refine wpS_seq ?_
    refine wpS_region ?_
    refine s_y (v := .int .i64 (nn.toInt)) (y_move rfl) rfl ?_
    refine s_y (v := .pointer (some ⟨b_1, 0, none⟩)) (y_fieldAddr (o' := 0) rfl Try.underlying84 rfl Try.sizeOf3 (by decide) rfl) rfl ?_
    refine s_y (v := .int .i64 k) (y_load1 rfl Try.isAgg3 (own1 (.t .h) rfl)) rfl ?_
    refine s_y (v := .int .i64 (((nn * Int64.ofInt k)).toInt)) (y_mul (a := nn.toInt) (b := k) (c := ((nn * Int64.ofInt k)).toInt) rfl rfl (i_mulZ (by omega) (by omega))) rfl ?_
    refine s_y (v := .agg #[.int .i64 0, .int .i64 0, .int .i64 0, .int .i64 0, .int .i64 0, .int .i64 0, .int .i64 0, .int .i64 0, .slice none 0 0, .int .i64 (((nn * Int64.ofInt k)).toInt)]) (y_buildL (m := [(2, .int .i64 (((nn * Int64.ofInt k)).toInt))]) (vs := #[.int .i64 0, .int .i64 0, .int .i64 0, .int .i64 0, .int .i64 0, .int .i64 0, .int .i64 0, .int .i64 0, .slice none 0 0, .int .i64 (((nn * Int64.ofInt k)).toInt)]) (evc rfl evn) (fun w => by kernel_rfl)) rfl ?_
    refine s_e rfl ?_
    refine e_box (v := .agg #[.int .i64 0, .int .i64 0, .int .i64 0, .int .i64 0, .int .i64 0, .int .i64 0, .int .i64 0, .int .i64 0, .slice none 0 0, .int .i64 (((nn * Int64.ofInt k)).toInt)]) (l := [.int .i64 0, .int .i64 0, .int .i64 0, .int .i64 0, .int .i64 0, .int .i64 0, .int .i64 0, .int .i64 0, .slice none 0 0, .int .i64 (((nn * Int64.ofInt k)).toInt)]) rfl rfl ?_
    intro b_4
    refine s_y (v := .pointer (some ⟨b_4, 0, none⟩)) (y_assign rfl) rfl ?_
    refine wpL_nil ?_
    refine thenS_n ?_
    refine wpS_seq ?_
    refine wpS_anyL [cel b_2 89 [.int .i64 (u.toInt), .int .i64 (v.toInt)]] [] (by kernel_rfl) ?_
    refine anyS_take (i := 0) rfl (by kernel_rfl) (by kernel_rfl) (by kernel_rfl) (by kernel_rfl) (Yq.of (v := .pointer (some ⟨b_4, 0, none⟩)) (y_move rfl) rfl) (.p (.t .h) .nil) ?_
    refine anyS_take (i := 1) rfl (by kernel_rfl) (by kernel_rfl) (by kernel_rfl) (by kernel_rfl) (Yq.of (v := .pointer (some ⟨b_4, 0, none⟩)) (y_move rfl) rfl) (.p (.t .h) .nil) ?_
    refine anyS_take (i := 2) rfl (by kernel_rfl) (by kernel_rfl) (by kernel_rfl) (by kernel_rfl) (Yq.of (v := .pointer (some ⟨b_4, 0, none⟩)) (y_move rfl) rfl) (.p (.t .h) .nil) ?_
    refine anyS_take (i := 3) rfl (by kernel_rfl) (by kernel_rfl) (by kernel_rfl) (by kernel_rfl) (Yq.of (v := .pointer (some ⟨b_2, 0, none⟩)) (y_fieldAddr (o' := 0) rfl Try.underlying89 rfl Try.sizeOf2 (by decide) rfl) rfl) (.p (.t .h) .nil) ?_
    refine anyS_take (i := 4) rfl (by kernel_rfl) (by kernel_rfl) (by kernel_rfl) (by kernel_rfl) (Yq.of (v := .int .i64 (u.toInt)) (y_load1 rfl Try.isAgg2 (own1 .h rfl)) rfl) (.p (.t .h) .nil) ?_
    refine anyS_take (i := 5) rfl (by kernel_rfl) (by kernel_rfl) (by kernel_rfl) (by kernel_rfl) (Yq.of (v := .pointer (some ⟨b_2, 1, none⟩)) (y_fieldAddr (o' := 1) rfl Try.underlying89 rfl Try.sizeOf2 (by decide) rfl) rfl) (.p (.t .h) .nil) ?_
    refine anyS_take (i := 6) rfl (by kernel_rfl) (by kernel_rfl) (by kernel_rfl) (by kernel_rfl) (Yq.of (v := .int .i64 (v.toInt)) (y_load1 rfl Try.isAgg2 (own1 .h rfl)) rfl) (.p (.t .h) .nil) ?_
    refine anyS_take (i := 7) rfl (by kernel_rfl) (by kernel_rfl) (by kernel_rfl) (by kernel_rfl) (Yq.of (v := .int .i64 (nn.toInt)) (y_move rfl) rfl) (.p (.t .h) .nil) ?_
    refine anyS_take (i := 8) rfl (by kernel_rfl) (by kernel_rfl) (by kernel_rfl) (by kernel_rfl) (Yq.of (v := .pointer (some ⟨b_4, 0, none⟩)) (y_nilP rfl) rfl) (.p (.t .h) .nil) ?_
    refine anyS_take (i := 9) rfl (by kernel_rfl) (by kernel_rfl) (by kernel_rfl) (by kernel_rfl) (Yq.of (v := .pointer (some ⟨b_4, 0, none⟩)) (y_fieldAddr (o' := 0) rfl Try.underlying201 rfl Try.sizeOf199 (by decide) rfl) rfl) (.p (.t .h) .nil) ?_
    refine anyS_take (i := 10) rfl (by kernel_rfl) (by kernel_rfl) (by kernel_rfl) (by kernel_rfl) (Yq.of (v := .pointer (some ⟨b_4, 0, none⟩)) (y_idxA (o' := 0) rfl rfl Try.underlying199 Try.sizeOf2 (by decide) (by decide) (by decide)) rfl) (.p (.t .h) .nil) ?_
    refine anyS_take (i := 12) rfl (by kernel_rfl) (by kernel_rfl) (by kernel_rfl) (by kernel_rfl) (Yq.of (v := .pointer (some ⟨b_4, 0, none⟩)) (y_nilP rfl) rfl) (.p (.t .h) .nil) ?_
    refine anyS_take (i := 13) rfl (by kernel_rfl) (by kernel_rfl) (by kernel_rfl) (by kernel_rfl) (Yq.of (v := .pointer (some ⟨b_4, 0, none⟩)) (y_fieldAddr (o' := 0) rfl Try.underlying201 rfl Try.sizeOf199 (by decide) rfl) rfl) (.p (.t .h) .nil) ?_
    refine anyS_take (i := 16) rfl (by kernel_rfl) (by kernel_rfl) (by kernel_rfl) (by kernel_rfl) (Yq.of (v := .pointer (some ⟨b_4, 0, none⟩)) (y_nilP rfl) rfl) (.p (.t .h) .nil) ?_
    refine anyS_take (i := 17) rfl (by kernel_rfl) (by kernel_rfl) (by kernel_rfl) (by kernel_rfl) (Yq.of (v := .pointer (some ⟨b_4, 0, none⟩)) (y_fieldAddr (o' := 0) rfl Try.underlying201 rfl Try.sizeOf199 (by decide) rfl) rfl) (.p (.t .h) .nil) ?_
    refine anyS_all (rs := [11]) (by kernel_rfl) (by simp) ?_
    intro i hi; obtain rfl := List.mem_singleton.1 hi; clear hi
    refine opS_0 rfl rfl ?_
    refine e_store (vs := [.int .i64 (u.toInt)]) (l' := [.int .i64 (u.toInt), .int .i64 0, .int .i64 0, .int .i64 0, .int .i64 0, .int .i64 0, .int .i64 0, .int .i64 0, .slice none 0 0, .int .i64 (((nn * Int64.ofInt k)).toInt)]) rfl rfl rfl rfl Try.sizeOf2 .h (Nat.le_of_ble_eq_true rfl) rfl ?_
    refine ⟨.inr (.p (.t .h) .nil), ?_⟩
    refine anyS_take (i := 14) rfl (by kernel_rfl) (by kernel_rfl) (by kernel_rfl) (by kernel_rfl) (Yq.of (v := .pointer (some ⟨b_4, 1, none⟩)) (y_idxA (o' := 1) rfl rfl Try.underlying199 Try.sizeOf2 (by decide) (by decide) (by decide)) rfl) (.p (.t .h) .nil) ?_
    refine anyS_all (rs := [15]) (by kernel_rfl) (by simp) ?_
    intro i hi; obtain rfl := List.mem_singleton.1 hi; clear hi
    refine opS_0 rfl rfl ?_
    refine e_store (vs := [.int .i64 (v.toInt)]) (l' := [.int .i64 (u.toInt), .int .i64 (v.toInt), .int .i64 0, .int .i64 0, .int .i64 0, .int .i64 0, .int .i64 0, .int .i64 0, .slice none 0 0, .int .i64 (((nn * Int64.ofInt k)).toInt)]) rfl rfl rfl rfl Try.sizeOf2 .h (Nat.le_of_ble_eq_true rfl) rfl ?_
    refine ⟨.inr (.p (.t .h) .nil), ?_⟩
    refine anyS_take (i := 18) rfl (by kernel_rfl) (by kernel_rfl) (by kernel_rfl) (by kernel_rfl) (Yq.of (v := .pointer (some ⟨b_4, 2, none⟩)) (y_idxA (o' := 2) rfl rfl Try.underlying199 Try.sizeOf2 (by decide) (by decide) (by decide)) rfl) (.p (.t .h) .nil) ?_
    refine anyS_all (rs := [19]) (by kernel_rfl) (by simp) ?_
    intro i hi; obtain rfl := List.mem_singleton.1 hi; clear hi
    refine opS_0 rfl rfl ?_
    refine e_store (vs := [.int .i64 (nn.toInt)]) (l' := [.int .i64 (u.toInt), .int .i64 (v.toInt), .int .i64 (nn.toInt), .int .i64 0, .int .i64 0, .int .i64 0, .int .i64 0, .int .i64 0, .slice none 0 0, .int .i64 (((nn * Int64.ofInt k)).toInt)]) rfl rfl rfl rfl Try.sizeOf2 .h (Nat.le_of_ble_eq_true rfl) rfl ?_
    refine ⟨.inr (.p (.t .h) .nil), ?_⟩
    refine anyS_done (by kernel_rfl) ?_
    refine thenS_n ?_
    refine wpS_seq ?_
    refine wpS_seq ?_
    refine wpS_region ?_
    refine s_y (v := .pointer (some ⟨b_1, 0, none⟩)) (y_fieldAddr (o' := 0) rfl Try.underlying84 rfl Try.sizeOf3 (by decide) rfl) rfl ?_
    refine s_y (v := .int .i64 k) (y_load1 rfl Try.isAgg3 (own1 (.t (.t .h)) rfl)) rfl ?_
    refine s_y (v := .int .i64 0) (y_move rfl) rfl ?_
    refine wpL_nil ?_
    refine thenS_n ?_
    refine wpS_block ?_
    refine wpS_nil0 4 23 ?_
    refine wpS_loop (fun mez ds σ L => ∃ j : Nat, ∃ b1 : Option Addr, ∃ d1 : Nat, mez = k.toNat - j ∧ (j ≤ k.toNat) ∧ ds = [] ∧ σ 3 = .pointer (some ⟨b_1, 0, none⟩) ∧ σ 7 = .pointer (some ⟨b_4, 0, none⟩) ∧ σ 35 = .int .i64 k ∧ σ 36 = .int .i64 (((j : Nat) : Int)) ∧ Ent L [osl b1 d1 ((List.replicate j deadR).length) 4 23 ((List.replicate j deadR).flatMap recV), cel b_4 201 [.int .i64 (u.toInt), .int .i64 (v.toInt), .int .i64 (nn.toInt), .int .i64 0, .int .i64 0, .int .i64 0, .int .i64 0, .int .i64 0, .slice b1 ((List.replicate j deadR).length) d1, .int .i64 (((nn * Int64.ofInt k)).toInt)], cel b_2 89 [.int .i64 (u.toInt), .int .i64 (v.toInt)], cel b_1 84 [.int .i64 k, .slice a1 n1 c1, .slice a2 n2 c2, .slice a3 n3 c3]]) (m0 := k.toNat - 0) ⟨0, none, 0, rfl, by omega, rfl, rfl, rfl, rfl, rfl, .p .h (.p .h (.p .h (.p .h .nil)))⟩ ?_
    rintro mez ds σ L ⟨j, b1, d1, hm_5, hf0_5, rfl, h3_5, h7_5, h35_5, h36_5, hE_5⟩
    refine wpS_ent hE_5 ?_; clear hE_5
    refine wpS_seq ?_
    refine wpS_region ?_
    refine s_y (v := .bool (decide ((((j : Nat) : Int) : Int) < k))) (y_lss (a := ((j : Nat) : Int)) (b := k) h36_5 h35_5 rfl) rfl ?_
    refine wpL_nil ?_
    refine thenS_n ?_
    refine wpS_seq ?_
    refine wpS_cond (t := decide ((((j : Nat) : Int) : Int) < k)) rfl (fun b6 => ?_) (fun b6 => ?_)
    · -- decide ((((j : Nat) : Int) : Int) < k) true
      have p6 := of_decide_eq_true b6
      refine wpS_skip ?_
      refine thenS_n ?_
      refine wpS_seq ?_
      refine wpS_block ?_
      refine wpS_region ?_
      refine s_y (v := .pointer (some ⟨b_4, 0, none⟩)) (y_move h7_5) rfl ?_
      refine s_y (v := .pointer (some ⟨b_4, 0, none⟩)) (y_move h7_5) rfl ?_
      refine s_y (v := .pointer (some ⟨b_4, 0, none⟩)) (y_nilP rfl) rfl ?_
      refine s_y (v := .pointer (some ⟨b_4, 8, none⟩)) (y_fieldAddr (o' := 8) rfl Try.underlying201 rfl Try.sizeOf69 (by decide) rfl) rfl ?_
      refine s_y (v := .slice b1 ((List.replicate j deadR).length) d1) (y_load1 rfl Try.isAgg69 (own1 (.t .h) rfl)) rfl ?_
      refine s_y (v := .agg #[.bool true, .int .i64 0, .int .i64 0, .int .i64 0]) (y_buildL (m := [(0, .bool true)]) (vs := #[.bool true, .int .i64 0, .int .i64 0, .int .i64 0]) (evc rfl evn) (fun w => by kernel_rfl)) rfl ?_
      refine s_e rfl ?_
      refine e_bsliceL (e := 23) (m := [(0, .agg #[.bool true, .int .i64 0, .int .i64 0, .int .i64 0])]) (l := [.bool true, .int .i64 0, .int .i64 0, .int .i64 0]) (evc rfl evn) (fun w => by kernel_rfl) ?_
      intro b_7
      refine s_e rfl ?_
      refine e_appendL (enc := recV) (xs := ((List.replicate j deadR) : List Rec)) (ns := ([(Rec.mk true 0 0 0)] : List Rec)) (zs := (List.replicate (j + 1) deadR)) (bytes := 32) recV_len recV_one Try.underlying69 (i := Try.t23) rfl rfl rfl rfl rfl (by decide) rfl rfl (by first | rfl | omega) (by first | rfl | omega) (.t .h) (fun w hs => celR .h w hs) (rep_next j) (by rw [List.length_replicate]; omega) (by rw [List.length_replicate]; omega) ?_
      intro a_8 c_9
      refine s_y (v := .pointer (some ⟨b_4, 0, none⟩)) (y_nilP rfl) rfl ?_
      refine s_y (v := .pointer (some ⟨b_4, 8, none⟩)) (y_fieldAddr (o' := 8) rfl Try.underlying201 rfl Try.sizeOf69 (by decide) rfl) rfl ?_
      refine s_e0 ?_
      refine e_store (vs := [.slice a_8 ((List.replicate (j + 1) deadR).length) c_9]) (l' := [.int .i64 (u.toInt), .int .i64 (v.toInt), .int .i64 (nn.toInt), .int .i64 0, .int .i64 0, .int .i64 0, .int .i64 0, .int .i64 0, .slice a_8 ((List.replicate (j + 1) deadR).length) c_9, .int .i64 (((nn * Int64.ofInt k)).toInt)]) rfl rfl rfl rfl Try.sizeOf69 (.t (.t .h)) (Nat.le_of_ble_eq_true rfl) rfl ?_
      refine wpL_nil ?_
      refine blockS_n ?_
      refine thenS_n ?_
      refine wpS_region ?_
      refine s_y (v := .int .i64 ((((j + 1) : Nat) : Int))) (y_add (a := ((j : Nat) : Int)) (b := 1) (c := (((j + 1) : Nat) : Int)) h36_5 rfl (wI (by omega) (by omega) (by omega))) rfl ?_
      refine s_y (v := .int .i64 ((((j + 1) : Nat) : Int))) (y_move rfl) rfl ?_
      refine wpL_nil ?_
      refine thenS_n ?_
      exact ⟨_, by omega, ⟨(j + 1), a_8, c_9, rfl, by omega, rfl, h3_5, h7_5, h35_5, rfl, .p (.t .h) (.p .h (.p (.t .h) (.p (.t .h) .nil)))⟩⟩
    · -- decide ((((j : Nat) : Int) : Int) < k) false
      have p6 := of_decide_eq_false b6
      refine wpS_exit ?_
      refine thenS_x ?_
      refine thenS_x ?_
      refine blockS_h ?_
      refine thenS_n ?_
      refine wpS_seq ?_
      refine wpS_region ?_
      refine s_y (v := .pointer (some ⟨b_4, 0, none⟩)) (y_move h7_5) rfl ?_
      refine s_y (v := .pointer (some ⟨b_1, 1, none⟩)) (y_fieldAddr (o' := 1) h3_5 Try.underlying84 rfl Try.sizeOf82 (by decide) rfl) rfl ?_
      refine s_y (v := .slice a1 n1 c1) (y_load1 rfl Try.isAgg82 (own1 (.t (.t (.t .h))) rfl)) rfl ?_
      refine s_e rfl ?_
      refine OpE.ent (L' := [osl b1 d1 ((List.replicate j deadR).length) 4 23 ((List.replicate j deadR).flatMap recV), cel b_4 201 (macV ([u, v, nn, 0, 0, 0, 0, 0] : List Int64) b1 ((List.replicate j deadR).length) d1 (nn * Int64.ofInt k)), cel b_2 89 [.int .i64 (u.toInt), .int .i64 (v.toInt)], cel b_1 84 [.int .i64 k, .slice a1 n1 c1, .slice a2 n2 c2, .slice a3 n3 c3]]) (fun w hs => hs) ?_
      refine e_call (f := 173) (args := #[.pointer (some ⟨b_4, 0, none⟩), .slice a1 n1 c1]) (X := Unit) (A := [cel b_4 201 (macV ([u, v, nn, 0, 0, 0, 0, 0] : List Int64) b1 ((List.replicate j deadR).length) d1 (nn * Int64.ofInt k)), osl b1 d1 ((List.replicate j deadR).length) 4 23 ((List.replicate j deadR).flatMap recV)]) (M := [cel b_2 89 [.int .i64 (u.toInt), .int .i64 (v.toInt)], cel b_1 84 [.int .i64 k, .slice a1 n1 c1, .slice a2 n2 c2, .slice a3 n3 c3]]) (V := fun _ => .tuple #[]) (A' := fun _ => [cel b_4 201 (macV ((runM (nn * Int64.ofInt k) ⟨([u, v, nn, 0, 0, 0, 0, 0] : List Int64), (List.replicate j deadR)⟩ l1).r) b1 ((List.replicate j deadR).length) d1 (nn * Int64.ofInt k)), osl b1 d1 ((List.replicate j deadR).length) 4 23 (((runM (nn * Int64.ofInt k) ⟨([u, v, nn, 0, 0, 0, 0, 0] : List Int64), (List.replicate j deadR)⟩ l1).s).flatMap recV)]) (C := fun _ => True) Try.call173 (ev2 rfl rfl) (.p (.t .h) (.p .h (.p .h (.p .h .nil)))) (fun w hs => (run_c b_4 ([u, v, nn, 0, 0, 0, 0, 0] : List Int64) b1 ((List.replicate j deadR).length) d1 (List.replicate j deadR) (nn * Int64.ofInt k) a1 n1 c1 l1 k w rfl (by first | rfl | omega | (simp; done)) (by rw [List.length_replicate]; omega) hp1 hn1 (by first | omega | (simp; omega)) ((oldR hr1) w hs) (fun hl => (show _ ∧ _ from apOld hs (rdBlk hr1 hl) (by simp)).2) (SH.lend hs)).mono (fun e w2 hx => ⟨(), hx.1, hx.2, trivial⟩)) ?_
      rintro ⟨⟩ -
      have hrl10 : (runM (nn * Int64.ofInt k) ⟨([u, v, nn, 0, 0, 0, 0, 0] : List Int64), (List.replicate j deadR)⟩ l1).r.length = 8 := (runM_r _ _ _).trans rfl
      have hsl11 : (runM (nn * Int64.ofInt k) ⟨([u, v, nn, 0, 0, 0, 0, 0] : List Int64), (List.replicate j deadR)⟩ l1).s.length = (List.replicate j deadR).length := (runM_s _ _ _).trans (by first | rfl | (show _ = _; omega))
      refine wpL_nil ?_
      refine thenS_n ?_
      refine wpS_seq ?_
      refine wpS_region ?_
      refine s_y (v := .pointer (some ⟨b_4, 0, none⟩)) (y_move h7_5) rfl ?_
      refine s_y (v := .pointer (some ⟨b_4, 0, none⟩)) (y_nilP rfl) rfl ?_
      refine s_y (v := .pointer (some ⟨b_4, 8, none⟩)) (y_fieldAddr (o' := 8) rfl Try.underlying201 rfl Try.sizeOf69 (by decide) rfl) rfl ?_
      refine s_y (v := .slice b1 ((List.replicate j deadR).length) d1) (y_load1 (v := .slice b1 ((List.replicate j deadR).length) d1) rfl Try.isAgg69 (own1 .h rfl)) rfl ?_
      refine s_y (v := .slice b1 ((List.replicate j deadR).length) d1) (y_assign rfl) rfl ?_
      refine wpL_nil ?_
      refine thenS_n ?_
      refine wpS_ret ?_
      refine fin1 (M := [osl b1 d1 ((List.replicate j deadR).length) 4 23 (((runM (nn * Int64.ofInt k) ⟨([u, v, nn, 0, 0, 0, 0, 0] : List Int64), (List.replicate j deadR)⟩ l1).s).flatMap recV)]) (v := .slice b1 ((List.replicate j deadR).length) d1) (.inr rfl) (.p (.t .h) .nil) Try.results83 rfl ?_
      exact fun w' hs => ⟨(b1, d1), by rw [show (mapC (chkB k l1 l2 l3) k l1 nn u v) = (runM (nn * Int64.ofInt k) ⟨([u, v, nn, 0, 0, 0, 0, 0] : List Int64), (List.replicate j deadR)⟩ l1).s from (by unfold mapC mapP; rw [if_pos hok, show j = k.toNat by omega]; rfl)]; simp only [slV, show ((runM (nn * Int64.ofInt k) ⟨([u, v, nn, 0, 0, 0, 0, 0] : List Int64), (List.replicate j deadR)⟩ l1).s).length = (List.replicate j deadR).length from by omega], by rw [show (mapC (chkB k l1 l2 l3) k l1 nn u v) = (runM (nn * Int64.ofInt k) ⟨([u, v, nn, 0, 0, 0, 0, 0] : List Int64), (List.replicate j deadR)⟩ l1).s from (by unfold mapC mapP; rw [if_pos hok, show j = k.toNat by omega]; rfl)]; simp only [slR, show ((runM (nn * Int64.ofInt k) ⟨([u, v, nn, 0, 0, 0, 0, 0] : List Int64), (List.replicate j deadR)⟩ l1).s).length = (List.replicate j deadR).length from by omega]; exact hs, trivial⟩

theorem few11_c (k : Int) (a1 a2 a3 : Option Addr) (n1 c1 n2 c2 n3 c3 : Nat) (l1 l2 l3 : List Opc) (w : World) (hn1 : l1.length = n1) (hn2 : l2.length = n2) (hn3 : l3.length = n3) : Pure Try.prog 86 #[.agg #[.int .i64 k, .slice a1 n1 c1, .slice a2 n2 c2, .slice a3 n3 c3]] w (.bool ((fewO l1 l2 l3))) := by
  refine calls_S (n := 19) (σ0 := (upd fr0 0 (.agg #[.int .i64 k, .slice a1 n1 c1, .slice a2 n2 c2, .slice a3 n3 c3]))) (D := []) (A := []) Try.func86 rfl Try.ntmps86 rfl (a1_fr _) (SH.start w) ?_
  refine wpS_seq ?_
  refine wpS_region ?_
  refine s_e rfl ?_
  refine e_box (v := .agg #[.int .i64 k, .slice a1 n1 c1, .slice a2 n2 c2, .slice a3 n3 c3]) (l := [.int .i64 k, .slice a1 n1 c1, .slice a2 n2 c2, .slice a3 n3 c3]) rfl rfl ?_
  intro b_1
  refine s_y (v := .bool false) (y_assign rfl) rfl ?_
  refine wpL_nil ?_
  refine thenS_n ?_
  refine wpS_seq ?_
  refine wpS_region ?_
  refine s_y (v := .pointer (some ⟨b_1, 1, none⟩)) (y_fieldAddr (o' := 1) rfl Try.underlying84 rfl Try.sizeOf82 (by decide) rfl) rfl ?_
  refine s_y (v := .slice a1 n1 c1) (y_load1 rfl Try.isAgg82 (own1 .h rfl)) rfl ?_
  refine s_y (v := .int .i64 (((n1 : Nat) : Int))) (y_len (ty' := 0) (at_ := #[]) rfl Try.underlying82) rfl ?_
  refine s_y (v := .bool (decide ((n1 : Nat) < 200))) (y_lss (a := ((n1 : Nat) : Int)) (b := 200) (c := decide ((n1 : Nat) < 200)) rfl rfl (decide_eq_decide.2 (by omega))) rfl ?_
  refine s_y (v := .bool (decide ((n1 : Nat) < 200))) (y_move rfl) rfl ?_
  rcases Bool.eq_false_or_eq_true (decide ((n1 : Nat) < 200)) with b2 | b2
  · -- decide ((n1 : Nat) < 200) True
    have p2 := of_decide_eq_true b2
    refine s_gy (y_fieldAddr (o' := 2) rfl Try.underlying84 rfl Try.sizeOf82 (by decide) rfl) rfl rfl rfl rfl (b' := decide ((n1 : Nat) < 200)) rfl b2 ?_
    refine s_gy (y_load1 rfl Try.isAgg82 (own1 .h rfl)) rfl rfl rfl rfl (b' := decide ((n1 : Nat) < 200)) rfl b2 ?_
    refine s_gy (y_len (ty' := 0) (at_ := #[]) rfl Try.underlying82) rfl rfl rfl rfl (b' := decide ((n1 : Nat) < 200)) rfl b2 ?_
    refine s_gy (y_lss (a := ((n2 : Nat) : Int)) (b := 200) (c := decide ((n2 : Nat) < 200)) rfl rfl (decide_eq_decide.2 (by omega))) rfl rfl rfl rfl (b' := decide ((n1 : Nat) < 200)) rfl b2 ?_
    refine s_y (v := .bool (decide ((n2 : Nat) < 200))) (y_pickT (b := decide ((n1 : Nat) < 200)) (v := .bool (decide ((n2 : Nat) < 200))) rfl b2 rfl) rfl ?_
    refine s_y (v := .bool (decide ((n2 : Nat) < 200))) (y_move rfl) rfl ?_
    rcases Bool.eq_false_or_eq_true (decide ((n2 : Nat) < 200)) with b3 | b3
    · -- decide ((n2 : Nat) < 200) True
      have p3 := of_decide_eq_true b3
      refine s_gy (y_fieldAddr (o' := 3) rfl Try.underlying84 rfl Try.sizeOf82 (by decide) rfl) rfl rfl rfl rfl (b' := decide ((n2 : Nat) < 200)) rfl b3 ?_
      refine s_gy (y_load1 rfl Try.isAgg82 (own1 .h rfl)) rfl rfl rfl rfl (b' := decide ((n2 : Nat) < 200)) rfl b3 ?_
      refine s_gy (y_len (ty' := 0) (at_ := #[]) rfl Try.underlying82) rfl rfl rfl rfl (b' := decide ((n2 : Nat) < 200)) rfl b3 ?_
      refine s_gy (y_lss (a := ((n3 : Nat) : Int)) (b := 200) (c := decide ((n3 : Nat) < 200)) rfl rfl (decide_eq_decide.2 (by omega))) rfl rfl rfl rfl (b' := decide ((n2 : Nat) < 200)) rfl b3 ?_
      refine s_y (v := .bool (decide ((n3 : Nat) < 200))) (y_pickT (b := decide ((n2 : Nat) < 200)) (v := .bool (decide ((n3 : Nat) < 200))) rfl b3 rfl) rfl ?_
      refine s_y (v := .bool (decide ((n3 : Nat) < 200))) (y_assign rfl) rfl ?_
      refine wpL_nil ?_
      refine thenS_n ?_
      refine wpS_ret ?_
      refine fin1 (v := .bool (decide ((n3 : Nat) < 200))) (.inr rfl) (.nil) Try.results86 rfl ?_
      exact fun w' hs => ⟨congrArg (fun b : Bool => Ending.returned (.bool b)) ((by unfold fewO; first | exact (decide_eq_false (by omega)).symm | exact decide_eq_decide.2 (by omega))), hs⟩
    · -- decide ((n2 : Nat) < 200) False
      have p3 := of_decide_eq_false b3
      refine s_no rfl rfl rfl rfl (b' := decide ((n2 : Nat) < 200)) rfl b3 ?_
      refine s_no rfl rfl rfl rfl (b' := decide ((n2 : Nat) < 200)) rfl b3 ?_
      refine s_no rfl rfl rfl rfl (b' := decide ((n2 : Nat) < 200)) rfl b3 ?_
      refine s_no rfl rfl rfl rfl (b' := decide ((n2 : Nat) < 200)) rfl b3 ?_
      refine s_y (v := .bool false) (y_pickF (b := decide ((n2 : Nat) < 200)) (v := .bool false) rfl b3 rfl) rfl ?_
      refine s_y (v := .bool false) (y_assign rfl) rfl ?_
      refine wpL_nil ?_
      refine thenS_n ?_
      refine wpS_ret ?_
      refine fin1 (v := .bool false) (.inr rfl) (.nil) Try.results86 rfl ?_
      exact fun w' hs => ⟨congrArg (fun b : Bool => Ending.returned (.bool b)) ((by unfold fewO; first | exact (decide_eq_false (by omega)).symm | exact decide_eq_decide.2 (by omega))), hs⟩
  · -- decide ((n1 : Nat) < 200) False
    have p2 := of_decide_eq_false b2
    refine s_no rfl rfl rfl rfl (b' := decide ((n1 : Nat) < 200)) rfl b2 ?_
    refine s_no rfl rfl rfl rfl (b' := decide ((n1 : Nat) < 200)) rfl b2 ?_
    refine s_no rfl rfl rfl rfl (b' := decide ((n1 : Nat) < 200)) rfl b2 ?_
    refine s_no rfl rfl rfl rfl (b' := decide ((n1 : Nat) < 200)) rfl b2 ?_
    refine s_y (v := .bool false) (y_pickF (b := decide ((n1 : Nat) < 200)) (v := .bool false) rfl b2 rfl) rfl ?_
    refine s_y (v := .bool false) (y_move rfl) rfl ?_
    refine s_no rfl rfl rfl rfl rfl rfl ?_
    refine s_no rfl rfl rfl rfl rfl rfl ?_
    refine s_no rfl rfl rfl rfl rfl rfl ?_
    refine s_no rfl rfl rfl rfl rfl rfl ?_
    refine s_y (v := .bool false) (y_pickF (v := .bool false) rfl rfl rfl) rfl ?_
    refine s_y (v := .bool false) (y_assign rfl) rfl ?_
    refine wpL_nil ?_
    refine thenS_n ?_
    refine wpS_ret ?_
    refine fin1 (v := .bool false) (.inr rfl) (.nil) Try.results86 rfl ?_
    exact fun w' hs => ⟨congrArg (fun b : Bool => Ending.returned (.bool b)) ((by unfold fewO; first | exact (decide_eq_false (by omega)).symm | exact decide_eq_decide.2 (by omega))), hs⟩

theorem awake11_c (w : World) : Pure Try.prog 82 #[] w (.bool true) := by
  refine calls_S (n := 25) (σ0 := fr0) (D := []) (A := []) Try.func82 rfl Try.ntmps82 rfl (a0_fr) (SH.start w) ?_
  refine wpS_seq ?_
  refine wpS_region ?_
  refine s_y (v := .bool false) (y_assign rfl) rfl ?_
  refine wpL_nil ?_
  refine thenS_n ?_
  refine wpS_seq ?_
  refine wpS_region ?_
  refine s_y (v := .agg #[.int .i64 2, .int .i64 0, .int .i64 0, .int .i64 1, .int .i64 0, .int .i64 0]) (y_buildL (m := [(0, .int .i64 2), (3, .int .i64 1)]) (vs := #[.int .i64 2, .int .i64 0, .int .i64 0, .int .i64 1, .int .i64 0, .int .i64 0]) (evc rfl (evc rfl evn)) (fun w => by kernel_rfl)) rfl ?_
  refine s_e rfl ?_
  refine e_bsliceL (e := 86) (m := [(0, .agg #[.int .i64 2, .int .i64 0, .int .i64 0, .int .i64 1, .int .i64 0, .int .i64 0])]) (l := [.int .i64 2, .int .i64 0, .int .i64 0, .int .i64 1, .int .i64 0, .int .i64 0]) (evc rfl evn) (fun w => by kernel_rfl) ?_
  intro b_1
  refine s_y (v := .agg #[.int .i64 1, .slice none 0 0, .slice (some ⟨b_1, 0, none⟩) 1 1, .slice none 0 0]) (y_buildL (m := [(0, .int .i64 1), (2, .slice (some ⟨b_1, 0, none⟩) 1 1)]) (vs := #[.int .i64 1, .slice none 0 0, .slice (some ⟨b_1, 0, none⟩) 1 1, .slice none 0 0]) (evc rfl (evc rfl evn)) (fun w => by kernel_rfl)) rfl ?_
  refine s_e rfl ?_
  refine e_alloc (l := [.int .i64 0, .slice none 0 0, .slice none 0 0, .slice none 0 0]) Try.zeroValue84 rfl ?_
  intro b_2
  refine s_e0 ?_
  refine e_store (vs := [.int .i64 1, .slice none 0 0, .slice (some ⟨b_1, 0, none⟩) 1 1, .slice none 0 0]) (l' := [.int .i64 1, .slice none 0 0, .slice (some ⟨b_1, 0, none⟩) 1 1, .slice none 0 0]) rfl rfl rfl rfl Try.sizeOf84 .h (Nat.le_of_ble_eq_true rfl) rfl ?_
  refine wpL_nil ?_
  refine thenS_n ?_
  refine wpS_seq ?_
  refine wpS_region ?_
  refine s_y (v := .agg #[.int .i64 1, .slice none 0 0, .slice (some ⟨b_1, 0, none⟩) 1 1, .slice none 0 0]) (y_loadN (vs := [.int .i64 1, .slice none 0 0, .slice (some ⟨b_1, 0, none⟩) 1 1, .slice none 0 0]) rfl Try.isAgg84 Try.sizeOf84 (ownN .h rfl)) rfl ?_
  refine s_y (v := .int .i64 (chk11 1 ([]) ([(Opc.mk 2 0 0 1 0 0)]) ([]))) (y_call (args := #[.agg #[.int .i64 1, .slice none 0 0, .slice (some ⟨b_1, 0, none⟩) 1 1, .slice none 0 0]]) (v := .int .i64 (chk11 1 ([]) ([(Opc.mk 2 0 0 1 0 0)]) ([]))) Try.call84 (ev1 rfl) (fun w hs => check_c 1 none (some ⟨b_1, 0, none⟩) none 0 0 1 1 0 0 ([]) ([(Opc.mk 2 0 0 1 0 0)]) ([]) w (by first | rfl | (simp only [List.length_set]; done) | omega) (Rds.nil _ _) (by omega) (by first | rfl | (simp only [List.length_set]; done) | omega) (celR (.t .h) w hs) (by omega) (by first | rfl | (simp only [List.length_set]; done) | omega) (Rds.nil _ _) (by omega))) rfl ?_
  refine s_y (v := .bool (decide ((chk11 1 ([]) ([(Opc.mk 2 0 0 1 0 0)]) ([]) : Int) = 0))) (y_eql (a := chk11 1 ([]) ([(Opc.mk 2 0 0 1 0 0)]) ([])) (b := 0) rfl rfl rfl) rfl ?_
  refine s_y (v := .bool (decide ((chk11 1 ([]) ([(Opc.mk 2 0 0 1 0 0)]) ([]) : Int) = 0))) (y_move rfl) rfl ?_
  refine s_gy (y_loadN (vs := [.int .i64 1, .slice none 0 0, .slice (some ⟨b_1, 0, none⟩) 1 1, .slice none 0 0]) rfl Try.isAgg84 Try.sizeOf84 (ownN .h rfl)) rfl rfl rfl rfl (b' := decide ((chk11 1 ([]) ([(Opc.mk 2 0 0 1 0 0)]) ([]) : Int) = 0)) rfl (by decide +kernel) ?_
  refine s_gy (y_call (args := #[.agg #[.int .i64 1, .slice none 0 0, .slice (some ⟨b_1, 0, none⟩) 1 1, .slice none 0 0], .int .i64 2, .int .i64 3]) (v := .int .i64 (((doneC (chkB 1 ([]) ([(Opc.mk 2 0 0 1 0 0)]) ([])) ([(Opc.mk 2 0 0 1 0 0)]) 2 3)).toInt)) Try.call85 (ev3 rfl rfl rfl) (fun w hs => fold_c 1 none (some ⟨b_1, 0, none⟩) none 0 0 1 1 0 0 ([]) ([(Opc.mk 2 0 0 1 0 0)]) ([]) 2 3 w (by first | rfl | (simp only [List.length_set]; done) | omega) (Rds.nil _ _) (by omega) (by first | rfl | (simp only [List.length_set]; done) | omega) (celR (.t .h) w hs) (by omega) (by first | rfl | (simp only [List.length_set]; done) | omega) (Rds.nil _ _) (by omega))) rfl rfl rfl rfl (b' := decide ((chk11 1 ([]) ([(Opc.mk 2 0 0 1 0 0)]) ([]) : Int) = 0)) rfl (by decide +kernel) ?_
  refine s_gy (y_eql (a := ((doneC (chkB 1 ([]) ([(Opc.mk 2 0 0 1 0 0)]) ([])) ([(Opc.mk 2 0 0 1 0 0)]) 2 3)).toInt) (b := 5) (c := decide ((doneC (chkB 1 ([]) ([(Opc.mk 2 0 0 1 0 0)]) ([])) ([(Opc.mk 2 0 0 1 0 0)]) 2 3) = 5)) rfl rfl (i_eqlL _ 5 (by decide))) rfl rfl rfl rfl (b' := decide ((chk11 1 ([]) ([(Opc.mk 2 0 0 1 0 0)]) ([]) : Int) = 0)) rfl (by decide +kernel) ?_
  refine s_y (v := .bool (decide ((doneC (chkB 1 ([]) ([(Opc.mk 2 0 0 1 0 0)]) ([])) ([(Opc.mk 2 0 0 1 0 0)]) 2 3) = 5))) (y_pickT (b := decide ((chk11 1 ([]) ([(Opc.mk 2 0 0 1 0 0)]) ([]) : Int) = 0)) (v := .bool (decide ((doneC (chkB 1 ([]) ([(Opc.mk 2 0 0 1 0 0)]) ([])) ([(Opc.mk 2 0 0 1 0 0)]) 2 3) = 5))) rfl (by decide +kernel) rfl) rfl ?_
  refine s_y (v := .bool (decide ((doneC (chkB 1 ([]) ([(Opc.mk 2 0 0 1 0 0)]) ([])) ([(Opc.mk 2 0 0 1 0 0)]) 2 3) = 5))) (y_move rfl) rfl ?_
  refine s_gy (y_buildL (m := []) (vs := #[.int .i64 0, .slice none 0 0, .slice none 0 0, .slice none 0 0]) evn (fun w => by kernel_rfl)) rfl rfl rfl rfl (b' := decide ((doneC (chkB 1 ([]) ([(Opc.mk 2 0 0 1 0 0)]) ([])) ([(Opc.mk 2 0 0 1 0 0)]) 2 3) = 5)) rfl (by decide +kernel) ?_
  refine s_gy (y_call (args := #[.agg #[.int .i64 0, .slice none 0 0, .slice none 0 0, .slice none 0 0]]) (v := .int .i64 (chk11 0 ([]) ([]) ([]))) Try.call84 (ev1 rfl) (fun w hs => check_c 0 none none none 0 0 0 0 0 0 ([]) ([]) ([]) w (by first | rfl | (simp only [List.length_set]; done) | omega) (Rds.nil _ _) (by omega) (by first | rfl | (simp only [List.length_set]; done) | omega) (Rds.nil _ _) (by omega) (by first | rfl | (simp only [List.length_set]; done) | omega) (Rds.nil _ _) (by omega))) rfl rfl rfl rfl (b' := decide ((doneC (chkB 1 ([]) ([(Opc.mk 2 0 0 1 0 0)]) ([])) ([(Opc.mk 2 0 0 1 0 0)]) 2 3) = 5)) rfl (by decide +kernel) ?_
  refine s_gy (y_eql (a := chk11 0 ([]) ([]) ([])) (b := 8) rfl rfl rfl) rfl rfl rfl rfl (b' := decide ((doneC (chkB 1 ([]) ([(Opc.mk 2 0 0 1 0 0)]) ([])) ([(Opc.mk 2 0 0 1 0 0)]) 2 3) = 5)) rfl (by decide +kernel) ?_
  refine s_y (v := .bool (decide ((chk11 0 ([]) ([]) ([]) : Int) = 8))) (y_pickT (b := decide ((doneC (chkB 1 ([]) ([(Opc.mk 2 0 0 1 0 0)]) ([])) ([(Opc.mk 2 0 0 1 0 0)]) 2 3) = 5)) (v := .bool (decide ((chk11 0 ([]) ([]) ([]) : Int) = 8))) rfl (by decide +kernel) rfl) rfl ?_
  refine s_y (v := .bool (decide ((chk11 0 ([]) ([]) ([]) : Int) = 8))) (y_move rfl) rfl ?_
  refine s_gy (y_loadN (vs := [.int .i64 1, .slice none 0 0, .slice (some ⟨b_1, 0, none⟩) 1 1, .slice none 0 0]) rfl Try.isAgg84 Try.sizeOf84 (ownN .h rfl)) rfl rfl rfl rfl (b' := decide ((chk11 0 ([]) ([]) ([]) : Int) = 8)) rfl (by decide +kernel) ?_
  refine s_gy (y_buildL (m := []) (vs := #[.int .i64 0, .int .i64 0]) evn (fun w => by kernel_rfl)) rfl rfl rfl rfl (b' := decide ((chk11 0 ([]) ([]) ([]) : Int) = 8)) rfl (by decide +kernel) ?_
  refine s_ge rfl rfl rfl rfl (b' := decide ((chk11 0 ([]) ([]) ([]) : Int) = 8)) rfl (by decide +kernel) ?_
  refine e_call (f := 83) (args := #[.agg #[.int .i64 1, .slice none 0 0, .slice (some ⟨b_1, 0, none⟩) 1 1, .slice none 0 0], .int .i64 0, .agg #[.int .i64 0, .int .i64 0]]) (X := Option Addr × Nat) (A := []) (M := [cel b_2 84 [.int .i64 1, .slice none 0 0, .slice (some ⟨b_1, 0, none⟩) 1 1, .slice none 0 0], cel b_1 86 [.int .i64 2, .int .i64 0, .int .i64 0, .int .i64 1, .int .i64 0, .int .i64 0]]) (V := slV (mapC (chkB 1 ([]) ([(Opc.mk 2 0 0 1 0 0)]) ([])) 1 ([]) 0 0 0)) (A' := fun x => [slR recV 4 23 (mapC (chkB 1 ([]) ([(Opc.mk 2 0 0 1 0 0)]) ([])) 1 ([]) 0 0 0) x]) (C := fun _ => True) Try.call83 (ev3 rfl rfl rfl) (.p .h (.p .h .nil)) (fun w hs => map_c 1 none (some ⟨b_1, 0, none⟩) none 0 0 1 1 0 0 ([]) ([(Opc.mk 2 0 0 1 0 0)]) ([]) 0 0 0 w (by first | rfl | (simp only [List.length_set]; done) | omega) (Rds.nil _ _) (by omega) (by first | rfl | (simp only [List.length_set]; done) | omega) (celR (.t .h) w hs) (by omega) (by first | rfl | (simp only [List.length_set]; done) | omega) (Rds.nil _ _) (by omega)) ?_
  rintro ⟨a_3, c_4⟩ -
  have hml6 : (mapC (chkB 1 ([]) ([(Opc.mk 2 0 0 1 0 0)]) ([])) 1 ([]) 0 0 0).length ≤ 4 := mapC_len
  refine s_gy (y_len (ty' := 0) (at_ := #[]) rfl Try.underlying69) rfl rfl rfl rfl (b' := decide ((chk11 0 ([]) ([]) ([]) : Int) = 8)) rfl (by decide +kernel) ?_
  refine s_gy (y_eql (a := (((mapC (chkB 1 ([]) ([(Opc.mk 2 0 0 1 0 0)]) ([])) 1 ([]) 0 0 0).length : Nat) : Int)) (b := 1) (c := decide (((mapC (chkB 1 ([]) ([(Opc.mk 2 0 0 1 0 0)]) ([])) 1 ([]) 0 0 0).length : Nat) = 1)) rfl rfl (decide_eq_decide.2 (by omega))) rfl rfl rfl rfl (b' := decide ((chk11 0 ([]) ([]) ([]) : Int) = 8)) rfl (by decide +kernel) ?_
  refine s_y (v := .bool (decide (((mapC (chkB 1 ([]) ([(Opc.mk 2 0 0 1 0 0)]) ([])) 1 ([]) 0 0 0).length : Nat) = 1))) (y_pickT (b := decide ((chk11 0 ([]) ([]) ([]) : Int) = 8)) (v := .bool (decide (((mapC (chkB 1 ([]) ([(Opc.mk 2 0 0 1 0 0)]) ([])) 1 ([]) 0 0 0).length : Nat) = 1))) rfl (by decide +kernel) rfl) rfl ?_
  refine s_y (v := .bool (decide (((mapC (chkB 1 ([]) ([(Opc.mk 2 0 0 1 0 0)]) ([])) 1 ([]) 0 0 0).length : Nat) = 1))) (y_assign rfl) rfl ?_
  refine wpL_nil ?_
  refine thenS_n ?_
  refine wpS_ret ?_
  refine fin1 (v := .bool (decide (((mapC (chkB 1 ([]) ([(Opc.mk 2 0 0 1 0 0)]) ([])) 1 ([]) 0 0 0).length : Nat) = 1))) (.inr rfl) (.nil) Try.results82 rfl ?_
  exact fun w' hs => ⟨congrArg (fun b => Ending.returned (Value.bool b)) (show (decide (((mapC (chkB 1 ([]) ([(Opc.mk 2 0 0 1 0 0)]) ([])) 1 ([]) 0 0 0).length : Nat) = 1)) = true from (by decide +kernel)), hs⟩

end Go.Proofs.Ytldkjjnjdjfipaa
