/- What a sequence tells, gathered; walked. -/
import Derived.Test.YtldkjjnjdjfipaaWRnd
namespace Go.Proofs.Ytldkjjnjdjfipaa
open Go Go.RowKit
set_option linter.unusedVariables false
set_option linter.unusedSimpArgs false
set_option maxRecDepth 10000

theorem seq2_c (f : Nat) (cap : Array Value) (rd : Nat → Prop) (N : Nat) (hcf : ∀ args w, (callFunc f args).run Try.prog w = .ok (.enter f args) w) (fst : Nat → Int) (snd : Nat → Int) (most : Int) (w : World) (hit : IterAt Try.prog f cap (fun k => #[.int .i64 ((fst k)), .int .i64 ((snd k))]) N rd w) (hN : (N : Int) ≤ most) (hm : N ≤ 100000) (hm2 : most < 9223372036854775808) : Makes Try.prog 54 #[.func (.func f) #[] cap, .int .i64 most] w [] (X := (Option Addr × Nat) × (Option Addr × Nat)) (fun x => .tuple #[slV ((List.range N).map fst) x.1, slV ((List.range N).map snd) x.2, .bool true]) (fun x => [slR intV 1 3 ((List.range N).map fst) x.1, slR intV 1 3 ((List.range N).map snd) x.2]) (fun _ => True) := by
  refine calls_S (n := 30) (σ0 := (upd (upd fr0 0 (.func (.func f) #[] cap)) 1 (.int .i64 most))) (D := []) (A := []) Try.func54 rfl Try.ntmps54 rfl (a2_fr _ _) (SH.start w) ?_
  refine wpS_seq ?_
  refine wpS_region ?_
  refine s_e rfl ?_
  refine e_box (v := .int .i64 most) (l := [.int .i64 most]) rfl rfl ?_
  intro b_1
  refine s_e rfl ?_
  refine e_alloc (l := [.slice none 0 0]) Try.zeroValue39 rfl ?_
  intro b_2
  refine s_e rfl ?_
  refine e_alloc (l := [.slice none 0 0]) Try.zeroValue39 rfl ?_
  intro b_3
  refine s_e rfl ?_
  refine e_alloc (l := [.bool false]) Try.zeroValue4 rfl ?_
  intro b_4
  refine wpL_nil ?_
  refine thenS_n ?_
  refine wpS_seq ?_
  refine wpS_seq ?_
  refine wpS_region ?_
  refine s_y (v := .func (.func f) #[] cap) (y_move rfl) rfl ?_
  refine s_y (v := .bool false) (y_fnNil rfl rfl Try.underlying37 (by kernel_rfl)) rfl ?_
  refine wpL_nil ?_
  refine thenS_n ?_
  refine wpS_cond_f rfl ?_
  refine wpS_skip ?_
  refine thenS_n ?_
  refine wpS_seq ?_
  refine wpS_region ?_
  refine s_e rfl ?_
  refine e_alloc (l := [.slice none 0 0]) Try.zeroValue39 rfl ?_
  intro b_5
  refine wpL_nil ?_
  refine thenS_n ?_
  refine wpS_seq ?_
  refine wpS_region ?_
  refine s_e rfl ?_
  refine e_alloc (l := [.slice none 0 0]) Try.zeroValue39 rfl ?_
  intro b_6
  refine wpL_nil ?_
  refine thenS_n ?_
  refine wpS_seq ?_
  refine wpS_seq ?_
  refine wpS_region ?_
  refine s_y (v := .func (.func f) #[] cap) (y_move rfl) rfl ?_
  refine wpL_nil ?_
  refine thenS_n ?_
  refine wpS_block ?_
  refine wpS_nil0 1 3 ?_
  refine wpS_nil0 1 3 ?_
  refine wpS_rangeFunc (f := f) (cap := cap) (enc := fun k => #[.int .i64 ((fst k)), .int .i64 ((snd k))]) (N := N) (rd := rd) (A := [osl none 0 0 1 3 (([] : List Int).flatMap intV), osl none 0 0 1 3 (([] : List Int).flatMap intV), cel b_6 39 [.slice none 0 0], cel b_5 39 [.slice none 0 0], cel b_4 4 [.bool false], cel b_3 39 [.slice none 0 0], cel b_2 39 [.slice none 0 0], cel b_1 3 [.int .i64 most]]) (M := []) (fun k A => ∃ a1 : Option Addr, ∃ c1 : Nat, ∃ a2 : Option Addr, ∃ c2 : Nat, A = [osl a2 c2 (((List.range k).map snd).length) 1 3 (((List.range k).map snd).flatMap intV), osl a1 c1 (((List.range k).map fst).length) 1 3 (((List.range k).map fst).flatMap intV), cel b_6 39 [.slice a2 (((List.range k).map snd).length) c2], cel b_5 39 [.slice a1 (((List.range k).map fst).length) c1], cel b_4 4 [.bool false], cel b_3 39 [.slice none 0 0], cel b_2 39 [.slice none 0 0], cel b_1 3 [.int .i64 most]]) (fun k e A => False) rfl hcf (by kernel_rfl) (fun _ => rfl) (.p .h (.p .h (.p .h (.p .h (.p .h (.p .h (.p .h (.p .h .nil)))))))) ⟨none, 0, none, 0, rfl⟩ (fun w hs => (hit.mono hs).it) (fun w hs b hb => apNew hs (hit.2 b hb)) ?_ ?_ ?_
  · -- a round
    rintro k A' hk_7 ⟨a1, c1, a2, c2, rfl⟩ w_7 l_7 hs_7
    refine wpS_seq ?_
    refine wpS_region ?_
    refine s_y (v := .int .i64 ((fst k))) (y_assign rfl) rfl ?_
    refine wpL_nil ?_
    refine thenS_n ?_
    refine wpS_region ?_
    refine s_y (v := .int .i64 ((snd k))) (y_assign rfl) rfl ?_
    refine wpL_nil ?_
    refine asg_n fun w2_7 hs2_7 => ?_
    refine wpS_block ?_
    refine wpS_seq ?_
    refine wpS_anyL [cel b_6 39 [.slice a2 (((List.range k).map snd).length) c2], cel b_5 39 [.slice a1 (((List.range k).map fst).length) c1]] [8, 9] (by kernel_rfl) ?_
    refine anyS_take (i := 0) rfl (by kernel_rfl) (by kernel_rfl) (by kernel_rfl) (by kernel_rfl) (Yq.of (v := .slice a1 (((List.range k).map fst).length) c1) (y_load1 rfl Try.isAgg39 (own1 (.t .h) rfl)) rfl) (.p (.t (.t .h)) (.p (.t (.t .h)) .nil)) ?_
    refine anyS_take (i := 1) rfl (by kernel_rfl) (by kernel_rfl) (by kernel_rfl) (by kernel_rfl) (Yq.of (v := .int .i64 ((fst k))) (y_move rfl) rfl) (.p (.t (.t .h)) (.p (.t (.t .h)) .nil)) ?_
    refine anyS_take (i := 4) rfl (by kernel_rfl) (by kernel_rfl) (by kernel_rfl) (by kernel_rfl) (Yq.of (v := .slice a2 (((List.range k).map snd).length) c2) (y_load1 rfl Try.isAgg39 (own1 .h rfl)) rfl) (.p (.t (.t .h)) (.p (.t (.t .h)) .nil)) ?_
    refine anyS_take (i := 5) rfl (by kernel_rfl) (by kernel_rfl) (by kernel_rfl) (by kernel_rfl) (Yq.of (v := .int .i64 ((snd k))) (y_move rfl) rfl) (.p (.t (.t .h)) (.p (.t (.t .h)) .nil)) ?_
    refine anyS_all (rs := [2, 6]) (by kernel_rfl) (by simp) ?_
    intro i hi8; simp only [List.mem_cons, List.not_mem_nil, or_false] at hi8; rcases hi8 with rfl | rfl
    · -- number 2 first
      refine opS_0 rfl rfl ?_
      refine e_bsliceL (e := 3) (m := [(0, .int .i64 ((fst k)))]) (l := [.int .i64 ((fst k))]) (evc rfl evn) (fun w => by kernel_rfl) ?_
      intro b_9
      refine ⟨.inr (.p (.t (.t (.t .h))) (.p (.t (.t (.t .h))) .nil)), ?_⟩
      refine anyS_all (rs := [3, 6]) (by kernel_rfl) (by simp) ?_
      intro i hi10; simp only [List.mem_cons, List.not_mem_nil, or_false] at hi10; rcases hi10 with rfl | rfl
      · -- number 3 first
        refine opS_0 rfl rfl ?_
        refine e_appendL (enc := intV) (xs := (((List.range k).map fst) : List Int)) (ns := ([(fst k)] : List Int)) (zs := ((List.range (k + 1)).map fst)) (bytes := 8) intV_len intV_one Try.underlying39 (i := Try.t3) rfl rfl rfl rfl rfl (by decide) rfl rfl (by simp) (by first | rfl | omega) (.t (.t .h)) (fun w hs => celR .h w hs) (by rw [List.range_succ, List.map_append]; rfl) (by simp; omega) (by simp; omega) ?_
        intro a_11 c_12
        refine ⟨.inr (.p (.t (.t (.t .h))) (.p (.t (.t (.t .h))) .nil)), ?_⟩
        refine anyS_all (rs := [6]) (by kernel_rfl) (by simp) ?_
        intro i hi; obtain rfl := List.mem_singleton.1 hi; clear hi
        refine opS_0 rfl rfl ?_
        refine e_bsliceL (e := 3) (m := [(0, .int .i64 ((snd k)))]) (l := [.int .i64 ((snd k))]) (evc rfl evn) (fun w => by kernel_rfl) ?_
        intro b_13
        refine ⟨.inr (.p (.t (.t (.t (.t .h)))) (.p (.t (.t (.t (.t .h)))) .nil)), ?_⟩
        refine anyS_all (rs := [7]) (by kernel_rfl) (by simp) ?_
        intro i hi; obtain rfl := List.mem_singleton.1 hi; clear hi
        refine opS_0 rfl rfl ?_
        refine e_appendL (enc := intV) (xs := (((List.range k).map snd) : List Int)) (ns := ([(snd k)] : List Int)) (zs := ((List.range (k + 1)).map snd)) (bytes := 8) intV_len intV_one Try.underlying39 (i := Try.t3) rfl rfl rfl rfl rfl (by decide) rfl rfl (by simp) (by first | rfl | omega) (.t (.t (.t .h))) (fun w hs => celR .h w hs) (by rw [List.range_succ, List.map_append]; rfl) (by simp; omega) (by simp; omega) ?_
        intro a_14 c_15
        refine ⟨.inr (.p (.t (.t (.t (.t .h)))) (.p (.t (.t (.t (.t .h)))) .nil)), ?_⟩
        refine anyS_all (rs := [8]) (by kernel_rfl) (by simp) ?_
        intro i hi; obtain rfl := List.mem_singleton.1 hi; clear hi
        refine opS_0 rfl rfl ?_
        refine e_store (vs := [.slice a_11 (((List.range (k + 1)).map fst).length) c_12]) (l' := [.slice a_11 (((List.range (k + 1)).map fst).length) c_12]) rfl rfl rfl rfl Try.sizeOf39 (.t (.t (.t (.t (.t .h))))) (Nat.le_of_ble_eq_true rfl) rfl ?_
        refine ⟨.inl (by simp), ?_⟩
        refine anyS_all (rs := [9]) (by kernel_rfl) (by simp) ?_
        intro i hi; obtain rfl := List.mem_singleton.1 hi; clear hi
        refine opS_0 rfl rfl ?_
        refine e_store (vs := [.slice a_14 (((List.range (k + 1)).map snd).length) c_15]) (l' := [.slice a_14 (((List.range (k + 1)).map snd).length) c_15]) rfl rfl rfl rfl Try.sizeOf39 (.t (.t (.t (.t (.t .h))))) (Nat.le_of_ble_eq_true rfl) rfl ?_
        refine ⟨.inl (by simp), ?_⟩
        refine anyS_done (by kernel_rfl) ?_
        refine thenS_n ?_
        refine wpS_seq ?_
        refine wpS_region ?_
        refine s_y (v := .slice a_11 (((List.range (k + 1)).map fst).length) c_12) (y_load1 rfl Try.isAgg39 (own1 (.t .h) rfl)) rfl ?_
        refine s_y (v := .int .i64 (((((List.range (k + 1)).map fst).length : Nat) : Int))) (y_len (ty' := 0) (at_ := #[]) rfl Try.underlying39) rfl ?_
        refine s_y (v := .int .i64 most) (y_load1 rfl Try.isAgg3 (own1 (.t (.t (.t (.t (.t (.t (.t (.t (.t .h))))))))) rfl)) rfl ?_
        refine s_y (v := .bool (decide ((most : Int) < ((((List.range (k + 1)).map fst).length : Nat) : Int)))) (y_gtr (a := ((((List.range (k + 1)).map fst).length : Nat) : Int)) (b := most) rfl rfl rfl) rfl ?_
        refine wpL_nil ?_
        refine thenS_n ?_
        refine wpS_cond_F (t := decide ((most : Int) < ((((List.range (k + 1)).map fst).length : Nat) : Int))) rfl (decide_eq_false (by simp; omega)) ?_
        refine wpS_skip ?_
        refine blockS_n ?_
        exact rnd_n ⟨[osl a_14 c_15 (((List.range (k + 1)).map snd).length) 1 3 (((List.range (k + 1)).map snd).flatMap intV), osl a_11 c_12 (((List.range (k + 1)).map fst).length) 1 3 (((List.range (k + 1)).map fst).flatMap intV), cel b_6 39 [.slice a_14 (((List.range (k + 1)).map snd).length) c_15], cel b_5 39 [.slice a_11 (((List.range (k + 1)).map fst).length) c_12], cel b_4 4 [.bool false], cel b_3 39 [.slice none 0 0], cel b_2 39 [.slice none 0 0], cel b_1 3 [.int .i64 most]], .p (.t (.t .h)) (.p (.t (.t (.t .h))) (.p .h (.p .h (.p (.t (.t .h)) (.p (.t (.t .h)) (.p (.t (.t .h)) (.p (.t (.t .h)) .nil))))))), ⟨a_11, c_12, a_14, c_15, rfl⟩⟩
      · -- number 6 first
        refine opS_0 rfl rfl ?_
        refine e_bsliceL (e := 3) (m := [(0, .int .i64 ((snd k)))]) (l := [.int .i64 ((snd k))]) (evc rfl evn) (fun w => by kernel_rfl) ?_
        intro b_16
        refine ⟨.inr (.p (.t (.t (.t (.t .h)))) (.p (.t (.t (.t (.t .h)))) .nil)), ?_⟩
        refine anyS_all (rs := [3]) (by kernel_rfl) (by simp) ?_
        intro i hi; obtain rfl := List.mem_singleton.1 hi; clear hi
        refine opS_0 rfl rfl ?_
        refine e_appendL (enc := intV) (xs := (((List.range k).map fst) : List Int)) (ns := ([(fst k)] : List Int)) (zs := ((List.range (k + 1)).map fst)) (bytes := 8) intV_len intV_one Try.underlying39 (i := Try.t3) rfl rfl rfl rfl rfl (by decide) rfl rfl (by simp) (by first | rfl | omega) (.t (.t (.t .h))) (fun w hs => celR (.t .h) w hs) (by rw [List.range_succ, List.map_append]; rfl) (by simp; omega) (by simp; omega) ?_
        intro a_17 c_18
        refine ⟨.inr (.p (.t (.t (.t (.t .h)))) (.p (.t (.t (.t (.t .h)))) .nil)), ?_⟩
        refine anyS_all (rs := [7]) (by kernel_rfl) (by simp) ?_
        intro i hi; obtain rfl := List.mem_singleton.1 hi; clear hi
        refine opS_0 rfl rfl ?_
        refine e_appendL (enc := intV) (xs := (((List.range k).map snd) : List Int)) (ns := ([(snd k)] : List Int)) (zs := ((List.range (k + 1)).map snd)) (bytes := 8) intV_len intV_one Try.underlying39 (i := Try.t3) rfl rfl rfl rfl rfl (by decide) rfl rfl (by simp) (by first | rfl | omega) (.t (.t (.t .h))) (fun w hs => celR (.t .h) w hs) (by rw [List.range_succ, List.map_append]; rfl) (by simp; omega) (by simp; omega) ?_
        intro a_19 c_20
        refine ⟨.inr (.p (.t (.t (.t (.t .h)))) (.p (.t (.t (.t (.t .h)))) .nil)), ?_⟩
        refine anyS_all (rs := [8]) (by kernel_rfl) (by simp) ?_
        intro i hi; obtain rfl := List.mem_singleton.1 hi; clear hi
        refine opS_0 rfl rfl ?_
        refine e_store (vs := [.slice a_17 (((List.range (k + 1)).map fst).length) c_18]) (l' := [.slice a_17 (((List.range (k + 1)).map fst).length) c_18]) rfl rfl rfl rfl Try.sizeOf39 (.t (.t (.t (.t (.t .h))))) (Nat.le_of_ble_eq_true rfl) rfl ?_
        refine ⟨.inl (by simp), ?_⟩
        refine anyS_all (rs := [9]) (by kernel_rfl) (by simp) ?_
        intro i hi; obtain rfl := List.mem_singleton.1 hi; clear hi
        refine opS_0 rfl rfl ?_
        refine e_store (vs := [.slice a_19 (((List.range (k + 1)).map snd).length) c_20]) (l' := [.slice a_19 (((List.range (k + 1)).map snd).length) c_20]) rfl rfl rfl rfl Try.sizeOf39 (.t (.t (.t (.t (.t .h))))) (Nat.le_of_ble_eq_true rfl) rfl ?_
        refine ⟨.inl (by simp), ?_⟩
        refine anyS_done (by kernel_rfl) ?_
        refine thenS_n ?_
        refine wpS_seq ?_
        refine wpS_region ?_
        refine s_y (v := .slice a_17 (((List.range (k + 1)).map fst).length) c_18) (y_load1 rfl Try.isAgg39 (own1 (.t .h) rfl)) rfl ?_
        refine s_y (v := .int .i64 (((((List.range (k + 1)).map fst).length : Nat) : Int))) (y_len (ty' := 0) (at_ := #[]) rfl Try.underlying39) rfl ?_
        refine s_y (v := .int .i64 most) (y_load1 rfl Try.isAgg3 (own1 (.t (.t (.t (.t (.t (.t (.t (.t (.t .h))))))))) rfl)) rfl ?_
        refine s_y (v := .bool (decide ((most : Int) < ((((List.range (k + 1)).map fst).length : Nat) : Int)))) (y_gtr (a := ((((List.range (k + 1)).map fst).length : Nat) : Int)) (b := most) rfl rfl rfl) rfl ?_
        refine wpL_nil ?_
        refine thenS_n ?_
        refine wpS_cond_F (t := decide ((most : Int) < ((((List.range (k + 1)).map fst).length : Nat) : Int))) rfl (decide_eq_false (by simp; omega)) ?_
        refine wpS_skip ?_
        refine blockS_n ?_
        exact rnd_n ⟨[osl a_19 c_20 (((List.range (k + 1)).map snd).length) 1 3 (((List.range (k + 1)).map snd).flatMap intV), osl a_17 c_18 (((List.range (k + 1)).map fst).length) 1 3 (((List.range (k + 1)).map fst).flatMap intV), cel b_6 39 [.slice a_19 (((List.range (k + 1)).map snd).length) c_20], cel b_5 39 [.slice a_17 (((List.range (k + 1)).map fst).length) c_18], cel b_4 4 [.bool false], cel b_3 39 [.slice none 0 0], cel b_2 39 [.slice none 0 0], cel b_1 3 [.int .i64 most]], .p (.t (.t .h)) (.p (.t (.t .h)) (.p .h (.p .h (.p (.t (.t .h)) (.p (.t (.t .h)) (.p (.t (.t .h)) (.p (.t (.t .h)) .nil))))))), ⟨a_17, c_18, a_19, c_20, rfl⟩⟩
    · -- number 6 first
      refine opS_0 rfl rfl ?_
      refine e_bsliceL (e := 3) (m := [(0, .int .i64 ((snd k)))]) (l := [.int .i64 ((snd k))]) (evc rfl evn) (fun w => by kernel_rfl) ?_
      intro b_21
      refine ⟨.inr (.p (.t (.t (.t .h))) (.p (.t (.t (.t .h))) .nil)), ?_⟩
      refine anyS_all (rs := [2]) (by kernel_rfl) (by simp) ?_
      intro i hi; obtain rfl := List.mem_singleton.1 hi; clear hi
      refine opS_0 rfl rfl ?_
      refine e_bsliceL (e := 3) (m := [(0, .int .i64 ((fst k)))]) (l := [.int .i64 ((fst k))]) (evc rfl evn) (fun w => by kernel_rfl) ?_
      intro b_22
      refine ⟨.inr (.p (.t (.t (.t (.t .h)))) (.p (.t (.t (.t (.t .h)))) .nil)), ?_⟩
      refine anyS_all (rs := [3]) (by kernel_rfl) (by simp) ?_
      intro i hi; obtain rfl := List.mem_singleton.1 hi; clear hi
      refine opS_0 rfl rfl ?_
      refine e_appendL (enc := intV) (xs := (((List.range k).map fst) : List Int)) (ns := ([(fst k)] : List Int)) (zs := ((List.range (k + 1)).map fst)) (bytes := 8) intV_len intV_one Try.underlying39 (i := Try.t3) rfl rfl rfl rfl rfl (by decide) rfl rfl (by simp) (by first | rfl | omega) (.t (.t (.t .h))) (fun w hs => celR .h w hs) (by rw [List.range_succ, List.map_append]; rfl) (by simp; omega) (by simp; omega) ?_
      intro a_23 c_24
      refine ⟨.inr (.p (.t (.t (.t (.t .h)))) (.p (.t (.t (.t (.t .h)))) .nil)), ?_⟩
      refine anyS_all (rs := [7]) (by kernel_rfl) (by simp) ?_
      intro i hi; obtain rfl := List.mem_singleton.1 hi; clear hi
      refine opS_0 rfl rfl ?_
      refine e_appendL (enc := intV) (xs := (((List.range k).map snd) : List Int)) (ns := ([(snd k)] : List Int)) (zs := ((List.range (k + 1)).map snd)) (bytes := 8) intV_len intV_one Try.underlying39 (i := Try.t3) rfl rfl rfl rfl rfl (by decide) rfl rfl (by simp) (by first | rfl | omega) (.t (.t (.t .h))) (fun w hs => celR (.t (.t .h)) w hs) (by rw [List.range_succ, List.map_append]; rfl) (by simp; omega) (by simp; omega) ?_
      intro a_25 c_26
      refine ⟨.inr (.p (.t (.t (.t (.t .h)))) (.p (.t (.t (.t (.t .h)))) .nil)), ?_⟩
      refine anyS_all (rs := [8]) (by kernel_rfl) (by simp) ?_
      intro i hi; obtain rfl := List.mem_singleton.1 hi; clear hi
      refine opS_0 rfl rfl ?_
      refine e_store (vs := [.slice a_23 (((List.range (k + 1)).map fst).length) c_24]) (l' := [.slice a_23 (((List.range (k + 1)).map fst).length) c_24]) rfl rfl rfl rfl Try.sizeOf39 (.t (.t (.t (.t (.t .h))))) (Nat.le_of_ble_eq_true rfl) rfl ?_
      refine ⟨.inl (by simp), ?_⟩
      refine anyS_all (rs := [9]) (by kernel_rfl) (by simp) ?_
      intro i hi; obtain rfl := List.mem_singleton.1 hi; clear hi
      refine opS_0 rfl rfl ?_
      refine e_store (vs := [.slice a_25 (((List.range (k + 1)).map snd).length) c_26]) (l' := [.slice a_25 (((List.range (k + 1)).map snd).length) c_26]) rfl rfl rfl rfl Try.sizeOf39 (.t (.t (.t (.t (.t .h))))) (Nat.le_of_ble_eq_true rfl) rfl ?_
      refine ⟨.inl (by simp), ?_⟩
      refine anyS_done (by kernel_rfl) ?_
      refine thenS_n ?_
      refine wpS_seq ?_
      refine wpS_region ?_
      refine s_y (v := .slice a_23 (((List.range (k + 1)).map fst).length) c_24) (y_load1 rfl Try.isAgg39 (own1 (.t .h) rfl)) rfl ?_
      refine s_y (v := .int .i64 (((((List.range (k + 1)).map fst).length : Nat) : Int))) (y_len (ty' := 0) (at_ := #[]) rfl Try.underlying39) rfl ?_
      refine s_y (v := .int .i64 most) (y_load1 rfl Try.isAgg3 (own1 (.t (.t (.t (.t (.t (.t (.t (.t (.t .h))))))))) rfl)) rfl ?_
      refine s_y (v := .bool (decide ((most : Int) < ((((List.range (k + 1)).map fst).length : Nat) : Int)))) (y_gtr (a := ((((List.range (k + 1)).map fst).length : Nat) : Int)) (b := most) rfl rfl rfl) rfl ?_
      refine wpL_nil ?_
      refine thenS_n ?_
      refine wpS_cond_F (t := decide ((most : Int) < ((((List.range (k + 1)).map fst).length : Nat) : Int))) rfl (decide_eq_false (by simp; omega)) ?_
      refine wpS_skip ?_
      refine blockS_n ?_
      exact rnd_n ⟨[osl a_25 c_26 (((List.range (k + 1)).map snd).length) 1 3 (((List.range (k + 1)).map snd).flatMap intV), osl a_23 c_24 (((List.range (k + 1)).map fst).length) 1 3 (((List.range (k + 1)).map fst).flatMap intV), cel b_6 39 [.slice a_25 (((List.range (k + 1)).map snd).length) c_26], cel b_5 39 [.slice a_23 (((List.range (k + 1)).map fst).length) c_24], cel b_4 4 [.bool false], cel b_3 39 [.slice none 0 0], cel b_2 39 [.slice none 0 0], cel b_1 3 [.int .i64 most]], .p (.t (.t .h)) (.p (.t (.t .h)) (.p .h (.p .h (.p (.t (.t .h)) (.p (.t (.t .h)) (.p (.t (.t .h)) (.p (.t (.t .h)) .nil))))))), ⟨a_23, c_24, a_25, c_26, rfl⟩⟩
  · -- behind
    rintro d_7 A' ⟨a1, c1, a2, c2, rfl⟩
    refine blockS_n ?_
    refine thenS_n ?_
    refine wpS_seq ?_
    refine wpS_anyL [cel b_6 39 [.slice a2 (((List.range N).map snd).length) c2], cel b_5 39 [.slice a1 (((List.range N).map fst).length) c1]] [] (by kernel_rfl) ?_
    refine anyS_take (i := 0) rfl (by kernel_rfl) (by kernel_rfl) (by kernel_rfl) (by kernel_rfl) (Yq.of (v := .slice a1 (((List.range N).map fst).length) c1) (y_load1 rfl Try.isAgg39 (own1 (.t .h) rfl)) rfl) (.p (.t (.t (.t .h))) (.p (.t (.t (.t .h))) .nil)) ?_
    refine anyS_take (i := 1) rfl (by kernel_rfl) (by kernel_rfl) (by kernel_rfl) (by kernel_rfl) (Yq.of (v := .slice a2 (((List.range N).map snd).length) c2) (y_load1 rfl Try.isAgg39 (own1 .h rfl)) rfl) (.p (.t (.t (.t .h))) (.p (.t (.t (.t .h))) .nil)) ?_
    refine anyS_all (rs := [2]) (by kernel_rfl) (by simp) ?_
    intro i hi; obtain rfl := List.mem_singleton.1 hi; clear hi
    refine opS_0 rfl rfl ?_
    refine e_store (vs := [.slice a1 (((List.range N).map fst).length) c1]) (l' := [.slice a1 (((List.range N).map fst).length) c1]) rfl rfl rfl rfl Try.sizeOf39 (.t (.t (.t (.t (.t (.t (.t .h))))))) (Nat.le_of_ble_eq_true rfl) rfl ?_
    refine ⟨.inr (.p (.t (.t (.t (.t .h)))) (.p (.t (.t (.t (.t .h)))) .nil)), ?_⟩
    refine anyS_all (rs := [3]) (by kernel_rfl) (by simp) ?_
    intro i hi; obtain rfl := List.mem_singleton.1 hi; clear hi
    refine opS_0 rfl rfl ?_
    refine e_store (vs := [.slice a2 (((List.range N).map snd).length) c2]) (l' := [.slice a2 (((List.range N).map snd).length) c2]) rfl rfl rfl rfl Try.sizeOf39 (.t (.t (.t (.t (.t (.t (.t .h))))))) (Nat.le_of_ble_eq_true rfl) rfl ?_
    refine ⟨.inr (.p (.t (.t (.t (.t (.t .h))))) (.p (.t (.t (.t (.t (.t .h))))) .nil)), ?_⟩
    refine anyS_all (rs := [4]) (by kernel_rfl) (by simp) ?_
    intro i hi; obtain rfl := List.mem_singleton.1 hi; clear hi
    refine opS_0 rfl rfl ?_
    refine e_store (vs := [.bool true]) (l' := [.bool true]) rfl rfl rfl rfl Try.sizeOf4 (.t (.t (.t (.t (.t (.t (.t .h))))))) (Nat.le_of_ble_eq_true rfl) rfl ?_
    refine ⟨.inr (.p (.t (.t (.t (.t (.t (.t .h)))))) (.p (.t (.t (.t (.t (.t (.t .h)))))) .nil)), ?_⟩
    refine anyS_done (by kernel_rfl) ?_
    refine thenS_n ?_
    refine wpS_ret ?_
    refine fin3 (M := [cel b_2 39 [.slice a1 (((List.range N).map fst).length) c1], cel b_3 39 [.slice a2 (((List.range N).map snd).length) c2], cel b_4 4 [.bool true], osl a1 c1 (((List.range N).map fst).length) 1 3 (((List.range N).map fst).flatMap intV), osl a2 c2 (((List.range N).map snd).length) 1 3 (((List.range N).map snd).flatMap intV)]) (.inr rfl) (.p (.t (.t (.t .h))) (.p (.t (.t .h)) (.p (.t .h) (.p .h (.p (.t .h) (.p .h .nil)))))) Try.results54 (rvC1 (v := .slice a1 (((List.range N).map fst).length) c1) rfl Try.isAgg39 (fun w hs => own1 .h rfl w hs)) (rvC1 (v := .slice a2 (((List.range N).map snd).length) c2) rfl Try.isAgg39 (fun w hs => own1 (.t .h) rfl w hs)) (rvC1 (v := .bool true) rfl Try.isAgg4 (fun w hs => own1 (.t (.t .h)) rfl w hs)) ?_
    exact fun w' hs => ⟨((a1, c1), (a2, c2)), rfl, SH.dropAll (L := [osl a1 c1 (((List.range N).map fst).length) 1 3 (((List.range N).map fst).flatMap intV), osl a2 c2 (((List.range N).map snd).length) 1 3 (((List.range N).map snd).flatMap intV)]) [_, _, _] hs, trivial⟩
  · -- left
    intro _ _ _ _ _ h; exact h.elim

theorem stops1_c (v0 v1 : Value) (bt bn : Nat) (x : Nat) (n : Int) (w : World) (hx : x < 1000000) (hA : SH w [bt, bn] [cel bt 3 [.int .i64 ((x : Nat) : Int)], cel bn 3 [.int .i64 n]] w) : Calls Try.prog 159 #[v0, v1, .pointer (some ⟨bt, 0, none⟩), .pointer (some ⟨bn, 0, none⟩)] w (fun e w' => e = .returned (.bool (decide (((x + 1 : Nat) : Int) < n))) ∧ SH w [bt, bn] [cel bt 3 [.int .i64 ((x + 1 : Nat) : Int)], cel bn 3 [.int .i64 n]] w') := by
  refine calls_S (n := 12) (σ0 := (upd (upd (upd (upd fr0 0 (v0)) 1 (v1)) 2 (.pointer (some ⟨bt, 0, none⟩))) 3 (.pointer (some ⟨bn, 0, none⟩)))) (D := [bt, bn]) (A := [cel bt 3 [.int .i64 (((x : Nat) : Int))], cel bn 3 [.int .i64 n]]) Try.func159 rfl Try.ntmps159 rfl (a4_fr _ _ _ _) hA ?_
  refine wpS_seq ?_
  refine wpS_region ?_
  refine s_y (v := .bool false) (y_assign rfl) rfl ?_
  refine wpL_nil ?_
  refine thenS_n ?_
  refine wpS_seq ?_
  refine wpS_region ?_
  refine s_y (v := .int .i64 (((x : Nat) : Int))) (y_load1 rfl Try.isAgg3 (own1 .h rfl)) rfl ?_
  refine s_y (v := .int .i64 ((((x + 1) : Nat) : Int))) (y_add (a := ((x : Nat) : Int)) (b := 1) (c := (((x + 1) : Nat) : Int)) rfl rfl (wI (by omega) (by omega) (by omega))) rfl ?_
  refine s_e0 ?_
  refine e_store (vs := [.int .i64 ((((x + 1) : Nat) : Int))]) (l' := [.int .i64 ((((x + 1) : Nat) : Int))]) rfl rfl rfl rfl Try.sizeOf3 .h (Nat.le_of_ble_eq_true rfl) rfl ?_
  refine wpL_nil ?_
  refine thenS_n ?_
  refine wpS_seq ?_
  refine wpS_region ?_
  refine s_y (v := .int .i64 ((((x + 1) : Nat) : Int))) (y_load1 rfl Try.isAgg3 (own1 .h rfl)) rfl ?_
  refine s_y (v := .int .i64 n) (y_load1 rfl Try.isAgg3 (own1 (.t .h) rfl)) rfl ?_
  refine s_y (v := .bool (decide (((((x + 1) : Nat) : Int) : Int) < n))) (y_lss (a := (((x + 1) : Nat) : Int)) (b := n) rfl rfl rfl) rfl ?_
  refine s_y (v := .bool (decide (((((x + 1) : Nat) : Int) : Int) < n))) (y_assign rfl) rfl ?_
  refine wpL_nil ?_
  refine thenS_n ?_
  refine wpS_ret ?_
  refine fin1 (M := [cel bt 3 [.int .i64 ((((x + 1) : Nat) : Int))], cel bn 3 [.int .i64 n]]) (v := .bool (decide (((((x + 1) : Nat) : Int) : Int) < n))) (.inr rfl) (.p .h (.p .h .nil)) Try.results159 rfl ?_
  exact fun w' hs => ⟨rfl, hs⟩

theorem stops_c (f : Nat) (cap : Array Value) (rd : Nat → Prop) (N : Nat) (hcf : ∀ args w, (callFunc f args).run Try.prog w = .ok (.enter f args) w) (u0 u1 : Nat → Value) (n : Int) (w : World) (hit : IterAt Try.prog f cap (fun k => #[u0 k, u1 k]) N rd w) (hN : N < 100000) (hn : 1 ≤ n) (hn2 : n < 9223372036854775808) : Pure Try.prog 61 #[.func (.func f) #[] cap, .int .i64 n] w (.int .i64 (min n (N : Int))) := by
  refine calls_S (n := 16) (σ0 := (upd (upd fr0 0 (.func (.func f) #[] cap)) 1 (.int .i64 n))) (D := []) (A := []) Try.func61 rfl Try.ntmps61 rfl (a2_fr _ _) (SH.start w) ?_
  refine wpS_seq ?_
  refine wpS_region ?_
  refine s_e rfl ?_
  refine e_box (v := .int .i64 n) (l := [.int .i64 n]) rfl rfl ?_
  intro b_1
  refine s_y (v := .int .i64 0) (y_assign rfl) rfl ?_
  refine wpL_nil ?_
  refine thenS_n ?_
  refine wpS_seq ?_
  refine wpS_region ?_
  refine s_e rfl ?_
  refine e_alloc (l := [.int .i64 0]) Try.zeroValue3 rfl ?_
  intro b_2
  refine s_e0 ?_
  refine e_store (vs := [.int .i64 0]) (l' := [.int .i64 0]) rfl rfl rfl rfl Try.sizeOf3 .h (Nat.le_of_ble_eq_true rfl) rfl ?_
  refine wpL_nil ?_
  refine thenS_n ?_
  refine wpS_seq ?_
  refine wpS_seq ?_
  refine wpS_region ?_
  refine s_y (v := .func (.func f) #[] cap) (y_move rfl) rfl ?_
  refine s_y (v := .bool false) (y_fnNil rfl rfl Try.underlying37 (by kernel_rfl)) rfl ?_
  refine s_y (v := .bool false) (y_move rfl) rfl ?_
  refine s_gy (y_load1 rfl Try.isAgg3 (own1 (.t .h) rfl)) rfl rfl rfl rfl rfl rfl ?_
  refine s_gy (y_lss (a := n) (b := 1) rfl rfl rfl) rfl rfl rfl rfl rfl rfl ?_
  refine s_y (v := .bool (decide ((n : Int) < 1))) (y_pickF (v := .bool (decide ((n : Int) < 1))) rfl rfl rfl) rfl ?_
  refine wpL_nil ?_
  refine thenS_n ?_
  refine wpS_cond_F (t := decide ((n : Int) < 1)) rfl (decide_eq_false (by omega)) ?_
  refine wpS_skip ?_
  refine thenS_n ?_
  refine wpS_seq ?_
  refine wpS_region ?_
  refine s_y (v := .func (.func f) #[] cap) (y_move rfl) rfl ?_
  refine s_y (v := .func (.func 159) #[] #[.pointer (some ⟨b_2, 0, none⟩), .pointer (some ⟨b_1, 0, none⟩)]) (y_makeFunc (a := #[]) (b := #[.pointer (some ⟨b_2, 0, none⟩), .pointer (some ⟨b_1, 0, none⟩)]) ev0 (ev2 rfl rfl)) rfl ?_
  refine s_e rfl ?_
  refine e_iter (f := f) (cap := cap) (enc := fun k => #[u0 k, u1 k]) (N := N) (rd := rd) (yv := .func (.func 159) #[] #[.pointer (some ⟨b_2, 0, none⟩), .pointer (some ⟨b_1, 0, none⟩)]) (A := [cel b_2 3 [.int .i64 ((0 : Nat) : Int)], cel b_1 3 [.int .i64 n]]) (M := []) (fun k A => (k : Int) < n ∧ A = [cel b_2 3 [.int .i64 ((k : Nat) : Int)], cel b_1 3 [.int .i64 n]]) (fun k A => ((k + 1 : Nat) : Int) = n ∧ A = [cel b_2 3 [.int .i64 ((k + 1 : Nat) : Int)], cel b_1 3 [.int .i64 n]]) hcf rfl (ev1 rfl) (.p .h (.p .h .nil)) ⟨by omega, rfl⟩ (fun w hs => (hit.mono hs).it) (fun w hs b hb => (apNew hs (hit.2 b hb)).2) (.inl ⟨159, _, rfl⟩) ?_ ?_ ?_
  · rintro w0' k A' hk ⟨hlt, rfl⟩ w hs hs2
    refine .f Try.call159 ((stops1_c _ _ b_2 b_1 k n w (by omega) (by simpa [cel, blk] using hs.self)).mono ?_)
    rintro e w' ⟨rfl, h2⟩
    refine ⟨_, _, rfl, by simpa [cel, blk] using h2, ?_⟩
    by_cases hh : ((k + 1 : Nat) : Int) < n
    · rw [decide_eq_true hh]; exact ⟨hh, rfl⟩
    · rw [decide_eq_false hh]; exact ⟨by omega, rfl⟩
  · rintro A' ⟨hlt, rfl⟩
    refine wpL_nil ?_
    refine thenS_n ?_
    refine wpS_seq ?_
    refine wpS_region ?_
    refine s_y (v := .int .i64 (((N : Nat) : Int))) (y_load1 rfl Try.isAgg3 (own1 .h rfl)) rfl ?_
    refine s_y (v := .int .i64 (((N : Nat) : Int))) (y_assign rfl) rfl ?_
    refine wpL_nil ?_
    refine thenS_n ?_
    refine wpS_ret ?_
    refine fin1 (M := []) (v := .int .i64 (((N : Nat) : Int))) (.inr rfl) (.nil) Try.results61 rfl ?_
    exact fun w' hs => ⟨by congr 2; omega, hs⟩
  · rintro k A' hk ⟨hlt, rfl⟩
    refine wpL_nil ?_
    refine thenS_n ?_
    refine wpS_seq ?_
    refine wpS_region ?_
    refine s_y (v := .int .i64 ((((k + 1) : Nat) : Int))) (y_load1 rfl Try.isAgg3 (own1 .h rfl)) rfl ?_
    refine s_y (v := .int .i64 ((((k + 1) : Nat) : Int))) (y_assign rfl) rfl ?_
    refine wpL_nil ?_
    refine thenS_n ?_
    refine wpS_ret ?_
    refine fin1 (M := []) (v := .int .i64 ((((k + 1) : Nat) : Int))) (.inr rfl) (.nil) Try.results61 rfl ?_
    exact fun w' hs => ⟨by congr 2; omega, hs⟩

end Go.Proofs.Ytldkjjnjdjfipaa
