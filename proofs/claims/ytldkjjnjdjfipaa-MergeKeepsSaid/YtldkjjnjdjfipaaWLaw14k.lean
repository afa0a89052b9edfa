/- MergeKeeps, walked. -/
import Derived.Test.YtldkjjnjdjfipaaP14k
import Derived.Test.YtldkjjnjdjfipaaWMrg6
import Derived.Test.YtldkjjnjdjfipaaWHlp
import Derived.Test.YtldkjjnjdjfipaaRf
namespace Go.Proofs.Ytldkjjnjdjfipaa
open Go Go.RowKit
set_option linter.unusedVariables false
set_option linter.unusedSimpArgs false
set_option maxRecDepth 10000
set_option maxHeartbeats 1000000

theorem srtd_ms (sq : Bool) (l : List Rec) : srtd sq (msort sq l) = true := decide_eq_true (srtd_msort sq l)

theorem keeps_law (a : Option Addr) (na ca : Nat) (l : List Rec) (sq : Bool) (w : World) (hna : l.length = na) (hra : Rds w a (l.flatMap recV)) : Pure Try.prog 17 #[.slice a na ca, .bool sq] w (.bool true) := by
  refine calls_S (n := 73) (σ0 := (upd (upd fr0 0 (.slice a na ca)) 1 (.bool sq))) (D := []) (A := []) Try.func17 rfl Try.ntmps17 rfl (a2_fr _ _) (SH.start w) ?_
  have hm1 := msort_len sq l
  have hm2 := msort_len sq (msort sq l)
  refine wpS_seq ?_
  refine wpS_region ?_
  refine s_y (v := .bool false) (y_assign rfl) rfl ?_
  refine wpL_nil ?_
  refine thenS_n ?_
  refine wpS_seq ?_
  refine wpS_seq ?_
  refine wpS_region ?_
  refine s_y (v := .slice a na ca) (y_move rfl) rfl ?_
  refine s_y (v := .int .i64 (((na : Nat) : Int))) (y_len (ty' := 0) (at_ := #[]) rfl Try.underlying69) rfl ?_
  refine s_y (v := .bool (decide ((60 : Nat) < na))) (y_gtr (a := ((na : Nat) : Int)) (b := 60) (c := decide ((60 : Nat) < na)) rfl rfl (decide_eq_decide.2 (by omega))) rfl ?_
  refine wpL_nil ?_
  refine thenS_n ?_
  refine wpS_cond (t := decide ((60 : Nat) < na)) rfl (fun b1 => ?_) (fun b1 => ?_)
  · -- decide ((60 : Nat) < na) true
    have p1 := of_decide_eq_true b1
    refine wpS_seq ?_
    refine wpS_region ?_
    refine s_y (v := .bool true) (y_call (args := #[]) (v := .bool true) Try.call72 ev0 (fun w hs => awake14_c w)) rfl ?_
    refine s_y (v := .bool true) (y_assign rfl) rfl ?_
    refine wpL_nil ?_
    refine thenS_n ?_
    refine wpS_ret ?_
    refine thenS_r ?_
    refine fin1 (v := .bool true) (.inr rfl) (.nil) Try.results17 rfl ?_
    exact fun w' hs => ⟨rfl, hs⟩
  · -- decide ((60 : Nat) < na) false
    have p1 := of_decide_eq_false b1
    refine wpS_skip ?_
    refine thenS_n ?_
    refine wpS_seq ?_
    refine wpS_region ?_
    refine s_y (v := .slice a na ca) (y_move rfl) rfl ?_
    refine s_y (v := .bool sq) (y_move rfl) rfl ?_
    refine s_e rfl ?_
    refine e_call (f := 74) (args := #[.slice a na ca, .bool sq]) (X := Option Addr × Nat) (A := []) (M := []) (V := slV (msort sq l)) (A' := fun x => [slR recV 4 23 (msort sq l) x]) (C := fun x => (msort sq l).length ≤ x.2) Try.call74 (ev2 rfl rfl) (.nil) (fun w hs => (sort_c a na ca l sq w hna ((oldR hra) w hs) (by omega)).cap) ?_
    rintro ⟨a_2, c_3⟩ hc4; replace hc4 : (msort sq l).length ≤ c_3 := hc4
    refine s_y (v := .slice a_2 ((msort sq l).length) c_3) (y_assign rfl) rfl ?_
    refine wpL_nil ?_
    refine thenS_n ?_
    refine wpS_seq ?_
    refine wpS_seq ?_
    refine wpS_region ?_
    refine s_y (v := .bool true) (y_call (args := #[]) (v := .bool true) Try.call72 ev0 (fun w hs => awake14_c w)) rfl ?_
    refine s_y (v := .bool false) (y_notK (b := true) (c := false) rfl rfl) rfl ?_
    refine s_y (v := .bool false) (y_move rfl) rfl ?_
    refine s_gy (y_move rfl) rfl rfl rfl rfl rfl rfl ?_
    refine s_gy (y_len (ty' := 0) (at_ := #[]) rfl Try.underlying69) rfl rfl rfl rfl rfl rfl ?_
    refine s_gy (y_move rfl) rfl rfl rfl rfl rfl rfl ?_
    refine s_gy (y_len (ty' := 0) (at_ := #[]) rfl Try.underlying69) rfl rfl rfl rfl rfl rfl ?_
    refine s_gy (y_neq (a := (((msort sq l).length : Nat) : Int)) (b := ((na : Nat) : Int)) (c := decide (((msort sq l).length) ≠ na)) rfl rfl (decide_eq_decide.2 (by omega))) rfl rfl rfl rfl rfl rfl ?_
    refine s_y (v := .bool (decide (((msort sq l).length) ≠ na))) (y_pickF (v := .bool (decide (((msort sq l).length) ≠ na))) rfl rfl rfl) rfl ?_
    refine s_y (v := .bool (decide (((msort sq l).length) ≠ na))) (y_move rfl) rfl ?_
    refine s_gy (y_move rfl) rfl rfl rfl rfl (b' := decide (((msort sq l).length) ≠ na)) rfl (decide_eq_false (by omega)) ?_
    refine s_gy (y_move rfl) rfl rfl rfl rfl (b' := decide (((msort sq l).length) ≠ na)) rfl (decide_eq_false (by omega)) ?_
    refine s_gy (y_call (args := #[.slice a_2 ((msort sq l).length) c_3, .bool sq]) (v := .bool ((srtd sq (msort sq l)))) Try.call79 (ev2 rfl rfl) (fun w hs => sorted_c a_2 ((msort sq l).length) c_3 (msort sq l) sq w rfl (oslR .h w hs) (by omega))) rfl rfl rfl rfl (b' := decide (((msort sq l).length) ≠ na)) rfl (decide_eq_false (by omega)) ?_
    refine s_gy (y_not (b := (srtd sq (msort sq l))) rfl) rfl rfl rfl rfl (b' := decide (((msort sq l).length) ≠ na)) rfl (decide_eq_false (by omega)) ?_
    refine s_y (v := .bool (!(srtd sq (msort sq l)))) (y_pickF (b := decide (((msort sq l).length) ≠ na)) (v := .bool (!(srtd sq (msort sq l)))) rfl (decide_eq_false (by omega)) rfl) rfl ?_
    refine s_y (v := .bool (!(srtd sq (msort sq l)))) (y_move rfl) rfl ?_
    refine s_gy (y_move rfl) rfl rfl rfl rfl (b' := !(srtd sq (msort sq l))) rfl (by rw [srtd_ms]; rfl) ?_
    refine s_gy (y_move rfl) rfl rfl rfl rfl (b' := !(srtd sq (msort sq l))) rfl (by rw [srtd_ms]; rfl) ?_
    refine s_ge rfl rfl rfl rfl (b' := !(srtd sq (msort sq l))) rfl (by rw [srtd_ms]; rfl) ?_
    refine e_call (f := 74) (args := #[.slice a_2 ((msort sq l).length) c_3, .bool sq]) (X := Option Addr × Nat) (A := []) (M := [osl a_2 c_3 ((msort sq l).length) 4 23 ((msort sq l).flatMap recV)]) (V := slV (msort sq (msort sq l))) (A' := fun x => [slR recV 4 23 (msort sq (msort sq l)) x]) (C := fun x => (msort sq (msort sq l)).length ≤ x.2) Try.call74 (ev2 rfl rfl) (.p .h .nil) (fun w hs => (sort_c a_2 ((msort sq l).length) c_3 (msort sq l) sq w rfl (oslR .h w hs) (by omega)).cap) ?_
    rintro ⟨a_5, c_6⟩ hc7; replace hc7 : (msort sq (msort sq l)).length ≤ c_6 := hc7
    refine s_gy (y_move rfl) rfl rfl rfl rfl (b' := !(srtd sq (msort sq l))) rfl (by rw [srtd_ms]; rfl) ?_
    refine s_gy (y_call (args := #[.slice a_5 ((msort sq (msort sq l)).length) c_6, .slice a_2 ((msort sq l).length) c_3]) (v := .bool (decide ((msort sq (msort sq l)) = (msort sq l)))) Try.call77 (ev2 rfl rfl) (fun w hs => plain_c a_5 a_2 ((msort sq (msort sq l)).length) c_6 ((msort sq l).length) c_3 (msort sq (msort sq l)) (msort sq l) w rfl rfl (oslR .h w hs) (oslR (.t .h) w hs) (by omega) (by omega))) rfl rfl rfl rfl (b' := !(srtd sq (msort sq l))) rfl (by rw [srtd_ms]; rfl) ?_
    refine s_gy (y_not (b := decide ((msort sq (msort sq l)) = (msort sq l))) rfl) rfl rfl rfl rfl (b' := !(srtd sq (msort sq l))) rfl (by rw [srtd_ms]; rfl) ?_
    refine s_y (v := .bool (!(decide ((msort sq (msort sq l)) = (msort sq l))))) (y_pickF (b := !(srtd sq (msort sq l))) (v := .bool (!(decide ((msort sq (msort sq l)) = (msort sq l))))) rfl (by rw [srtd_ms]; rfl) rfl) rfl ?_
    refine wpL_nil ?_
    refine thenS_n ?_
    refine wpS_cond_F (t := !(decide ((msort sq (msort sq l)) = (msort sq l)))) rfl (by rw [msort_fix, decide_eq_true rfl]; rfl) ?_
    refine wpS_skip ?_
    refine thenS_n ?_
    refine wpS_seq ?_
    refine wpS_region ?_
    refine s_e rfl ?_
    refine e_makeK ?_
    intro mp_9
    refine s_y (v := .map (some mp_9)) (y_assign rfl) rfl ?_
    refine wpL_nil ?_
    refine thenS_n ?_
    refine wpS_seq ?_
    refine wpS_seq ?_
    refine wpS_region ?_
    refine s_y (v := .int .i64 0) (y_assign rfl) rfl ?_
    refine wpL_nil ?_
    refine thenS_n ?_
    refine wpS_block ?_
    refine wpS_loop (fun mez ds σ L => ∃ i : Nat, ∃ T : RV, mez = na - i ∧ (i ≤ na) ∧ (MI T l (msort sq l) i i) ∧ ds = [] ∧ σ 0 = .slice a na ca ∧ σ 5 = .slice a_2 ((msort sq l).length) c_3 ∧ σ 6 = .map (some mp_9) ∧ σ 7 = .int .i64 (((i : Nat) : Int)) ∧ Ent L [mpk mp_9 T, osl a_5 c_6 ((msort sq (msort sq l)).length) 4 23 ((msort sq (msort sq l)).flatMap recV), osl a_2 c_3 ((msort sq l).length) 4 23 ((msort sq l).flatMap recV)]) (m0 := na - 0) ⟨0, [], rfl, by omega, (mi_0 l _), rfl, rfl, rfl, rfl, rfl, .p .h (.p .h (.p .h .nil))⟩ ?_
    rintro mez ds σ L ⟨i, T, hm_10, hf0_10, hf1_10, rfl, h0_10, h5_10, h6_10, h7_10, hE_10⟩
    refine wpS_ent hE_10 ?_; clear hE_10
    have hMI := (by assumption : MI T l (msort sq l) i i)
    have hv1 := mi_bd hMI (l.getD i default)
    refine wpS_seq ?_
    refine wpS_seq ?_
    refine wpS_region ?_
    refine s_y (v := .int .i64 (((i : Nat) : Int))) (y_move h7_10) rfl ?_
    refine s_y (v := .slice a na ca) (y_move h0_10) rfl ?_
    refine s_y (v := .int .i64 (((na : Nat) : Int))) (y_len (ty' := 0) (at_ := #[]) rfl Try.underlying69) rfl ?_
    refine s_y (v := .bool (decide (i < na))) (y_lss (a := ((i : Nat) : Int)) (b := ((na : Nat) : Int)) (c := decide (i < na)) rfl rfl (decide_eq_decide.2 (by omega))) rfl ?_
    refine wpL_nil ?_
    refine thenS_n ?_
    refine wpS_cond (t := decide (i < na)) rfl (fun b11 => ?_) (fun b11 => ?_)
    · -- decide (i < na) true
      have p11 := of_decide_eq_true b11
      refine wpS_skip ?_
      refine thenS_n ?_
      refine wpS_seq ?_
      refine wpS_block ?_
      refine wpS_seq ?_
      refine wpS_anyL [] [5, 6, 7, 8, 9] (by kernel_rfl) ?_
      refine anyS_take (i := 0) rfl (by kernel_rfl) (by kernel_rfl) (by kernel_rfl) (by kernel_rfl) (Yq.of (v := .map (some mp_9)) (y_move h6_10) rfl) (.nil) ?_
      refine anyS_all (rs := [1, 2]) (by kernel_rfl) (by simp) ?_
      intro i hi12; simp only [List.mem_cons, List.not_mem_nil, or_false] at hi12; rcases hi12 with rfl | rfl
      · -- number 1 first
        refine opS_0 rfl rfl ?_
        refine OpE.y (v := .slice a na ca) (y_move h0_10) ?_
        refine ⟨.inr (.nil), ?_⟩
        refine anyS_all (rs := [2]) (by kernel_rfl) (by simp) ?_
        intro i hi; obtain rfl := List.mem_singleton.1 hi; clear hi
        refine opS_0 rfl rfl ?_
        refine OpE.y (v := .int .i64 (((i : Nat) : Int))) (y_move h7_10) ?_
        refine ⟨.inr (.nil), ?_⟩
        refine anyS_take (i := 3) rfl (by kernel_rfl) (by kernel_rfl) (by kernel_rfl) (by kernel_rfl) (Yq.of (v := .pointer (some ⟨aB a, aO a + i * 4, none⟩)) (y_idx (o := i * 4) rfl rfl Try.underlying69 Try.sizeOf23 (oldR hra) ((fl_len recV_len _).trans (by first | omega | (simp only [List.length_set, List.length_take, List.length_drop]; done) | (simp only [List.length_set, List.length_take, List.length_drop]; omega))) (by decide) (by omega) (by omega) (by omega)) rfl) (.nil) ?_
        refine anyS_take (i := 4) rfl (by kernel_rfl) (by kernel_rfl) (by kernel_rfl) (by kernel_rfl) (Yq.of (v := .agg #[.bool ((l.getD i default).dead), .int .i64 (((l.getD i default).key).toInt), .int .i64 (((l.getD i default).value).toInt), .int .i64 (((l.getD i default).seq).toInt)]) (y_loadN (vs := recV (l.getD i default)) rfl Try.isAgg23 Try.sizeOf23 (rdN (oldR hra) (fl_getN recV_len l i (by first | omega | (simp only [List.length_set, List.length_take, List.length_drop]; done) | (simp only [List.length_set, List.length_take, List.length_drop]; omega))))) rfl) (.nil) ?_
        refine anyS_all (rs := [5, 7]) (by kernel_rfl) (by simp) ?_
        intro i hi13; simp only [List.mem_cons, List.not_mem_nil, or_false] at hi13; rcases hi13 with rfl | rfl
        · -- number 5 first
          refine opS_0 rfl rfl ?_
          refine OpE.y (v := .int .i64 ((vK T (l.getD i default)))) (y_lookupK (k := (l.getD i default)) (v := (vK T (l.getD i default))) Try.underlying79 rfl rfl .h rfl) ?_
          refine ⟨.inl (by simp), ?_⟩
          refine anyS_takeF (i := 6) rfl (by kernel_rfl) (by kernel_rfl) (by kernel_rfl) (by kernel_rfl) (Yq.of (v := .int .i64 ((vK T (l.getD i default)) + 1)) (y_add (a := (vK T (l.getD i default))) (b := 1) (c := (vK T (l.getD i default)) + 1) rfl rfl (wI rfl (by omega) (by omega))) rfl) ?_
          refine anyS_all (rs := [7]) (by kernel_rfl) (by simp) ?_
          intro i hi; obtain rfl := List.mem_singleton.1 hi; clear hi
          refine opS_0 rfl rfl ?_
          refine e_mapEntry (k := (l.getD i default)) Try.underlying79 rfl rfl .h ?_
          refine ⟨.inl (by simp), ?_⟩
          refine anyS_takeF (i := 8) rfl (by kernel_rfl) (by kernel_rfl) (by kernel_rfl) (by kernel_rfl) (Yq.of (v := .int .i64 ((((ixK T (l.getD i default)) : Nat) : Int))) (y_extract (v := .int .i64 ((((ixK T (l.getD i default)) : Nat) : Int))) rfl rfl) rfl) ?_
          refine anyS_all (rs := [9]) (by kernel_rfl) (by simp) ?_
          intro i hi; obtain rfl := List.mem_singleton.1 hi; clear hi
          refine opS_0 rfl rfl ?_
          refine e_entryStore (i := (ixK T (l.getD i default))) (k := (l.getD i default)) (v := (vK T (l.getD i default)) + 1) (l' := (bmp T (l.getD i default) ((vK T (l.getD i default)) + 1))) rfl rfl rfl .h (ens_lt _ _) (ens_key _ _) rfl ?_
          have hMIu := mi_up hMI (by omega) rfl; have hv2 := mi_bd hMIu ((msort sq l).getD i default)
          refine ⟨.inl (by simp), ?_⟩
          refine anyS_done (by kernel_rfl) ?_
          refine thenS_n ?_
          refine wpS_anyL [osl a_2 c_3 ((msort sq l).length) 4 23 ((msort sq l).flatMap recV)] [5, 6, 7, 8, 9] (by kernel_rfl) ?_
          refine anyS_take (i := 0) rfl (by kernel_rfl) (by kernel_rfl) (by kernel_rfl) (by kernel_rfl) (Yq.of (v := .map (some mp_9)) (y_move h6_10) rfl) (.p (.t (.t .h)) .nil) ?_
          refine anyS_all (rs := [1, 2]) (by kernel_rfl) (by simp) ?_
          intro i hi14; simp only [List.mem_cons, List.not_mem_nil, or_false] at hi14; rcases hi14 with rfl | rfl
          · -- number 1 first
            refine opS_0 rfl rfl ?_
            refine OpE.y (v := .slice a_2 ((msort sq l).length) c_3) (y_move h5_10) ?_
            refine ⟨.inr (.p (.t (.t .h)) .nil), ?_⟩
            refine anyS_all (rs := [2]) (by kernel_rfl) (by simp) ?_
            intro i hi; obtain rfl := List.mem_singleton.1 hi; clear hi
            refine opS_0 rfl rfl ?_
            refine OpE.y (v := .int .i64 (((i : Nat) : Int))) (y_move h7_10) ?_
            refine ⟨.inr (.p (.t (.t .h)) .nil), ?_⟩
            refine anyS_take (i := 3) rfl (by kernel_rfl) (by kernel_rfl) (by kernel_rfl) (by kernel_rfl) (Yq.of (v := .pointer (some ⟨aB a_2, aO a_2 + i * 4, none⟩)) (y_idx (o := i * 4) rfl rfl Try.underlying69 Try.sizeOf23 (oslR .h) (fl_len recV_len _) (by decide) (by omega) (by omega) (by omega)) rfl) (.p (.t (.t .h)) .nil) ?_
            refine anyS_take (i := 4) rfl (by kernel_rfl) (by kernel_rfl) (by kernel_rfl) (by kernel_rfl) (Yq.of (v := .agg #[.bool (((msort sq l).getD i default).dead), .int .i64 ((((msort sq l).getD i default).key).toInt), .int .i64 ((((msort sq l).getD i default).value).toInt), .int .i64 ((((msort sq l).getD i default).seq).toInt)]) (y_loadN (vs := recV ((msort sq l).getD i default)) rfl Try.isAgg23 Try.sizeOf23 (rdN (oslR .h) (fl_getN recV_len (msort sq l) i (by first | omega | (simp only [List.length_set, List.length_take, List.length_drop]; done) | (simp only [List.length_set, List.length_take, List.length_drop]; omega))))) rfl) (.p (.t (.t .h)) .nil) ?_
            refine anyS_all (rs := [5, 7]) (by kernel_rfl) (by simp) ?_
            intro i hi15; simp only [List.mem_cons, List.not_mem_nil, or_false] at hi15; rcases hi15 with rfl | rfl
            · -- number 5 first
              refine opS_0 rfl rfl ?_
              refine OpE.y (v := .int .i64 ((vK (bmp T (l.getD i default) ((vK T (l.getD i default)) + 1)) ((msort sq l).getD i default)))) (y_lookupK (k := ((msort sq l).getD i default)) (v := (vK (bmp T (l.getD i default) ((vK T (l.getD i default)) + 1)) ((msort sq l).getD i default))) Try.underlying79 rfl rfl .h rfl) ?_
              refine ⟨.inl (by simp), ?_⟩
              refine anyS_takeF (i := 6) rfl (by kernel_rfl) (by kernel_rfl) (by kernel_rfl) (by kernel_rfl) (Yq.of (v := .int .i64 ((vK (bmp T (l.getD i default) ((vK T (l.getD i default)) + 1)) ((msort sq l).getD i default)) - 1)) (y_sub (a := (vK (bmp T (l.getD i default) ((vK T (l.getD i default)) + 1)) ((msort sq l).getD i default))) (b := 1) (c := (vK (bmp T (l.getD i default) ((vK T (l.getD i default)) + 1)) ((msort sq l).getD i default)) - 1) rfl rfl (wI rfl (by omega) (by omega))) rfl) ?_
              refine anyS_all (rs := [7]) (by kernel_rfl) (by simp) ?_
              intro i hi; obtain rfl := List.mem_singleton.1 hi; clear hi
              refine opS_0 rfl rfl ?_
              refine e_mapEntry (k := ((msort sq l).getD i default)) Try.underlying79 rfl rfl .h ?_
              refine ⟨.inl (by simp), ?_⟩
              refine anyS_takeF (i := 8) rfl (by kernel_rfl) (by kernel_rfl) (by kernel_rfl) (by kernel_rfl) (Yq.of (v := .int .i64 ((((ixK (bmp T (l.getD i default) ((vK T (l.getD i default)) + 1)) ((msort sq l).getD i default)) : Nat) : Int))) (y_extract (v := .int .i64 ((((ixK (bmp T (l.getD i default) ((vK T (l.getD i default)) + 1)) ((msort sq l).getD i default)) : Nat) : Int))) rfl rfl) rfl) ?_
              refine anyS_all (rs := [9]) (by kernel_rfl) (by simp) ?_
              intro i hi; obtain rfl := List.mem_singleton.1 hi; clear hi
              refine opS_0 rfl rfl ?_
              refine e_entryStore (i := (ixK (bmp T (l.getD i default) ((vK T (l.getD i default)) + 1)) ((msort sq l).getD i default))) (k := ((msort sq l).getD i default)) (v := (vK (bmp T (l.getD i default) ((vK T (l.getD i default)) + 1)) ((msort sq l).getD i default)) - 1) (l' := (bmp (bmp T (l.getD i default) ((vK T (l.getD i default)) + 1)) ((msort sq l).getD i default) ((vK (bmp T (l.getD i default) ((vK T (l.getD i default)) + 1)) ((msort sq l).getD i default)) - 1))) rfl rfl rfl .h (ens_lt _ _) (ens_key _ _) rfl ?_
              refine ⟨.inl (by simp), ?_⟩
              refine anyS_done (by kernel_rfl) ?_
              refine blockS_n ?_
              refine thenS_n ?_
              refine wpS_region ?_
              refine s_y (v := .int .i64 (((i : Nat) : Int))) (y_move h7_10) rfl ?_
              refine s_y (v := .int .i64 ((((i + 1) : Nat) : Int))) (y_add (a := ((i : Nat) : Int)) (b := 1) (c := (((i + 1) : Nat) : Int)) rfl rfl (wI (by omega) (by omega) (by omega))) rfl ?_
              refine s_y (v := .int .i64 ((((i + 1) : Nat) : Int))) (y_assign rfl) rfl ?_
              refine wpL_nil ?_
              refine thenS_n ?_
              exact ⟨_, by omega, ⟨(i + 1), (bmp (bmp T (l.getD i default) ((vK T (l.getD i default)) + 1)) ((msort sq l).getD i default) ((vK (bmp T (l.getD i default) ((vK T (l.getD i default)) + 1)) ((msort sq l).getD i default)) - 1)), rfl, by omega, (mi_dn hMIu (by omega) rfl), rfl, h0_10, h5_10, h6_10, rfl, .p .h (.p .h (.p .h .nil))⟩⟩
            · -- number 7 first
              refine opS_0 rfl rfl ?_
              refine e_mapEntry (k := ((msort sq l).getD i default)) Try.underlying79 rfl rfl .h ?_
              refine ⟨.inl (by simp), ?_⟩
              refine anyS_takeF (i := 8) rfl (by kernel_rfl) (by kernel_rfl) (by kernel_rfl) (by kernel_rfl) (Yq.of (v := .int .i64 ((((ixK (bmp T (l.getD i default) ((vK T (l.getD i default)) + 1)) ((msort sq l).getD i default)) : Nat) : Int))) (y_extract (v := .int .i64 ((((ixK (bmp T (l.getD i default) ((vK T (l.getD i default)) + 1)) ((msort sq l).getD i default)) : Nat) : Int))) rfl rfl) rfl) ?_
              refine anyS_all (rs := [5]) (by kernel_rfl) (by simp) ?_
              intro i hi; obtain rfl := List.mem_singleton.1 hi; clear hi
              refine opS_0 rfl rfl ?_
              refine OpE.y (v := .int .i64 ((vK (bmp T (l.getD i default) ((vK T (l.getD i default)) + 1)) ((msort sq l).getD i default)))) (y_lookupK (k := ((msort sq l).getD i default)) (v := (vK (bmp T (l.getD i default) ((vK T (l.getD i default)) + 1)) ((msort sq l).getD i default))) Try.underlying79 rfl rfl .h (vK_ens _ _)) ?_
              refine ⟨.inl (by simp), ?_⟩
              refine anyS_takeF (i := 6) rfl (by kernel_rfl) (by kernel_rfl) (by kernel_rfl) (by kernel_rfl) (Yq.of (v := .int .i64 ((vK (bmp T (l.getD i default) ((vK T (l.getD i default)) + 1)) ((msort sq l).getD i default)) - 1)) (y_sub (a := (vK (bmp T (l.getD i default) ((vK T (l.getD i default)) + 1)) ((msort sq l).getD i default))) (b := 1) (c := (vK (bmp T (l.getD i default) ((vK T (l.getD i default)) + 1)) ((msort sq l).getD i default)) - 1) rfl rfl (wI rfl (by omega) (by omega))) rfl) ?_
              refine anyS_all (rs := [9]) (by kernel_rfl) (by simp) ?_
              intro i hi; obtain rfl := List.mem_singleton.1 hi; clear hi
              refine opS_0 rfl rfl ?_
              refine e_entryStore (i := (ixK (bmp T (l.getD i default) ((vK T (l.getD i default)) + 1)) ((msort sq l).getD i default))) (k := ((msort sq l).getD i default)) (v := (vK (bmp T (l.getD i default) ((vK T (l.getD i default)) + 1)) ((msort sq l).getD i default)) - 1) (l' := (bmp (bmp T (l.getD i default) ((vK T (l.getD i default)) + 1)) ((msort sq l).getD i default) ((vK (bmp T (l.getD i default) ((vK T (l.getD i default)) + 1)) ((msort sq l).getD i default)) - 1))) rfl rfl rfl .h (ens_lt _ _) (ens_key _ _) rfl ?_
              refine ⟨.inl (by simp), ?_⟩
              refine anyS_done (by kernel_rfl) ?_
              refine blockS_n ?_
              refine thenS_n ?_
              refine wpS_region ?_
              refine s_y (v := .int .i64 (((i : Nat) : Int))) (y_move h7_10) rfl ?_
              refine s_y (v := .int .i64 ((((i + 1) : Nat) : Int))) (y_add (a := ((i : Nat) : Int)) (b := 1) (c := (((i + 1) : Nat) : Int)) rfl rfl (wI (by omega) (by omega) (by omega))) rfl ?_
              refine s_y (v := .int .i64 ((((i + 1) : Nat) : Int))) (y_assign rfl) rfl ?_
              refine wpL_nil ?_
              refine thenS_n ?_
              exact ⟨_, by omega, ⟨(i + 1), (bmp (bmp T (l.getD i default) ((vK T (l.getD i default)) + 1)) ((msort sq l).getD i default) ((vK (bmp T (l.getD i default) ((vK T (l.getD i default)) + 1)) ((msort sq l).getD i default)) - 1)), rfl, by omega, (mi_dn hMIu (by omega) rfl), rfl, h0_10, h5_10, h6_10, rfl, .p .h (.p .h (.p .h .nil))⟩⟩
          · -- number 2 first
            refine opS_0 rfl rfl ?_
            refine OpE.y (v := .int .i64 (((i : Nat) : Int))) (y_move h7_10) ?_
            refine ⟨.inr (.p (.t (.t .h)) .nil), ?_⟩
            refine anyS_all (rs := [1]) (by kernel_rfl) (by simp) ?_
            intro i hi; obtain rfl := List.mem_singleton.1 hi; clear hi
            refine opS_0 rfl rfl ?_
            refine OpE.y (v := .slice a_2 ((msort sq l).length) c_3) (y_move h5_10) ?_
            refine ⟨.inr (.p (.t (.t .h)) .nil), ?_⟩
            refine anyS_take (i := 3) rfl (by kernel_rfl) (by kernel_rfl) (by kernel_rfl) (by kernel_rfl) (Yq.of (v := .pointer (some ⟨aB a_2, aO a_2 + i * 4, none⟩)) (y_idx (o := i * 4) rfl rfl Try.underlying69 Try.sizeOf23 (oslR .h) (fl_len recV_len _) (by decide) (by omega) (by omega) (by omega)) rfl) (.p (.t (.t .h)) .nil) ?_
            refine anyS_take (i := 4) rfl (by kernel_rfl) (by kernel_rfl) (by kernel_rfl) (by kernel_rfl) (Yq.of (v := .agg #[.bool (((msort sq l).getD i default).dead), .int .i64 ((((msort sq l).getD i default).key).toInt), .int .i64 ((((msort sq l).getD i default).value).toInt), .int .i64 ((((msort sq l).getD i default).seq).toInt)]) (y_loadN (vs := recV ((msort sq l).getD i default)) rfl Try.isAgg23 Try.sizeOf23 (rdN (oslR .h) (fl_getN recV_len (msort sq l) i (by first | omega | (simp only [List.length_set, List.length_take, List.length_drop]; done) | (simp only [List.length_set, List.length_take, List.length_drop]; omega))))) rfl) (.p (.t (.t .h)) .nil) ?_
            refine anyS_all (rs := [5, 7]) (by kernel_rfl) (by simp) ?_
            intro i hi16; simp only [List.mem_cons, List.not_mem_nil, or_false] at hi16; rcases hi16 with rfl | rfl
            · -- number 5 first
              refine opS_0 rfl rfl ?_
              refine OpE.y (v := .int .i64 ((vK (bmp T (l.getD i default) ((vK T (l.getD i default)) + 1)) ((msort sq l).getD i default)))) (y_lookupK (k := ((msort sq l).getD i default)) (v := (vK (bmp T (l.getD i default) ((vK T (l.getD i default)) + 1)) ((msort sq l).getD i default))) Try.underlying79 rfl rfl .h rfl) ?_
              refine ⟨.inl (by simp), ?_⟩
              refine anyS_takeF (i := 6) rfl (by kernel_rfl) (by kernel_rfl) (by kernel_rfl) (by kernel_rfl) (Yq.of (v := .int .i64 ((vK (bmp T (l.getD i default) ((vK T (l.getD i default)) + 1)) ((msort sq l).getD i default)) - 1)) (y_sub (a := (vK (bmp T (l.getD i default) ((vK T (l.getD i default)) + 1)) ((msort sq l).getD i default))) (b := 1) (c := (vK (bmp T (l.getD i default) ((vK T (l.getD i default)) + 1)) ((msort sq l).getD i default)) - 1) rfl rfl (wI rfl (by omega) (by omega))) rfl) ?_
              refine anyS_all (rs := [7]) (by kernel_rfl) (by simp) ?_
              intro i hi; obtain rfl := List.mem_singleton.1 hi; clear hi
              refine opS_0 rfl rfl ?_
              refine e_mapEntry (k := ((msort sq l).getD i default)) Try.underlying79 rfl rfl .h ?_
              refine ⟨.inl (by simp), ?_⟩
              refine anyS_takeF (i := 8) rfl (by kernel_rfl) (by kernel_rfl) (by kernel_rfl) (by kernel_rfl) (Yq.of (v := .int .i64 ((((ixK (bmp T (l.getD i default) ((vK T (l.getD i default)) + 1)) ((msort sq l).getD i default)) : Nat) : Int))) (y_extract (v := .int .i64 ((((ixK (bmp T (l.getD i default) ((vK T (l.getD i default)) + 1)) ((msort sq l).getD i default)) : Nat) : Int))) rfl rfl) rfl) ?_
              refine anyS_all (rs := [9]) (by kernel_rfl) (by simp) ?_
              intro i hi; obtain rfl := List.mem_singleton.1 hi; clear hi
              refine opS_0 rfl rfl ?_
              refine e_entryStore (i := (ixK (bmp T (l.getD i default) ((vK T (l.getD i default)) + 1)) ((msort sq l).getD i default))) (k := ((msort sq l).getD i default)) (v := (vK (bmp T (l.getD i default) ((vK T (l.getD i default)) + 1)) ((msort sq l).getD i default)) - 1) (l' := (bmp (bmp T (l.getD i default) ((vK T (l.getD i default)) + 1)) ((msort sq l).getD i default) ((vK (bmp T (l.getD i default) ((vK T (l.getD i default)) + 1)) ((msort sq l).getD i default)) - 1))) rfl rfl rfl .h (ens_lt _ _) (ens_key _ _) rfl ?_
              refine ⟨.inl (by simp), ?_⟩
              refine anyS_done (by kernel_rfl) ?_
              refine blockS_n ?_
              refine thenS_n ?_
              refine wpS_region ?_
              refine s_y (v := .int .i64 (((i : Nat) : Int))) (y_move h7_10) rfl ?_
              refine s_y (v := .int .i64 ((((i + 1) : Nat) : Int))) (y_add (a := ((i : Nat) : Int)) (b := 1) (c := (((i + 1) : Nat) : Int)) rfl rfl (wI (by omega) (by omega) (by omega))) rfl ?_
              refine s_y (v := .int .i64 ((((i + 1) : Nat) : Int))) (y_assign rfl) rfl ?_
              refine wpL_nil ?_
              refine thenS_n ?_
              exact ⟨_, by omega, ⟨(i + 1), (bmp (bmp T (l.getD i default) ((vK T (l.getD i default)) + 1)) ((msort sq l).getD i default) ((vK (bmp T (l.getD i default) ((vK T (l.getD i default)) + 1)) ((msort sq l).getD i default)) - 1)), rfl, by omega, (mi_dn hMIu (by omega) rfl), rfl, h0_10, h5_10, h6_10, rfl, .p .h (.p .h (.p .h .nil))⟩⟩
            · -- number 7 first
              refine opS_0 rfl rfl ?_
              refine e_mapEntry (k := ((msort sq l).getD i default)) Try.underlying79 rfl rfl .h ?_
              refine ⟨.inl (by simp), ?_⟩
              refine anyS_takeF (i := 8) rfl (by kernel_rfl) (by kernel_rfl) (by kernel_rfl) (by kernel_rfl) (Yq.of (v := .int .i64 ((((ixK (bmp T (l.getD i default) ((vK T (l.getD i default)) + 1)) ((msort sq l).getD i default)) : Nat) : Int))) (y_extract (v := .int .i64 ((((ixK (bmp T (l.getD i default) ((vK T (l.getD i default)) + 1)) ((msort sq l).getD i default)) : Nat) : Int))) rfl rfl) rfl) ?_
              refine anyS_all (rs := [5]) (by kernel_rfl) (by simp) ?_
              intro i hi; obtain rfl := List.mem_singleton.1 hi; clear hi
              refine opS_0 rfl rfl ?_
              refine OpE.y (v := .int .i64 ((vK (bmp T (l.getD i default) ((vK T (l.getD i default)) + 1)) ((msort sq l).getD i default)))) (y_lookupK (k := ((msort sq l).getD i default)) (v := (vK (bmp T (l.getD i default) ((vK T (l.getD i default)) + 1)) ((msort sq l).getD i default))) Try.underlying79 rfl rfl .h (vK_ens _ _)) ?_
              refine ⟨.inl (by simp), ?_⟩
              refine anyS_takeF (i := 6) rfl (by kernel_rfl) (by kernel_rfl) (by kernel_rfl) (by kernel_rfl) (Yq.of (v := .int .i64 ((vK (bmp T (l.getD i default) ((vK T (l.getD i default)) + 1)) ((msort sq l).getD i default)) - 1)) (y_sub (a := (vK (bmp T (l.getD i default) ((vK T (l.getD i default)) + 1)) ((msort sq l).getD i default))) (b := 1) (c := (vK (bmp T (l.getD i default) ((vK T (l.getD i default)) + 1)) ((msort sq l).getD i default)) - 1) rfl rfl (wI rfl (by omega) (by omega))) rfl) ?_
              refine anyS_all (rs := [9]) (by kernel_rfl) (by simp) ?_
              intro i hi; obtain rfl := List.mem_singleton.1 hi; clear hi
              refine opS_0 rfl rfl ?_
              refine e_entryStore (i := (ixK (bmp T (l.getD i default) ((vK T (l.getD i default)) + 1)) ((msort sq l).getD i default))) (k := ((msort sq l).getD i default)) (v := (vK (bmp T (l.getD i default) ((vK T (l.getD i default)) + 1)) ((msort sq l).getD i default)) - 1) (l' := (bmp (bmp T (l.getD i default) ((vK T (l.getD i default)) + 1)) ((msort sq l).getD i default) ((vK (bmp T (l.getD i default) ((vK T (l.getD i default)) + 1)) ((msort sq l).getD i default)) - 1))) rfl rfl rfl .h (ens_lt _ _) (ens_key _ _) rfl ?_
              refine ⟨.inl (by simp), ?_⟩
              refine anyS_done (by kernel_rfl) ?_
              refine blockS_n ?_
              refine thenS_n ?_
              refine wpS_region ?_
              refine s_y (v := .int .i64 (((i : Nat) : Int))) (y_move h7_10) rfl ?_
              refine s_y (v := .int .i64 ((((i + 1) : Nat) : Int))) (y_add (a := ((i : Nat) : Int)) (b := 1) (c := (((i + 1) : Nat) : Int)) rfl rfl (wI (by omega) (by omega) (by omega))) rfl ?_
              refine s_y (v := .int .i64 ((((i + 1) : Nat) : Int))) (y_assign rfl) rfl ?_
              refine wpL_nil ?_
              refine thenS_n ?_
              exact ⟨_, by omega, ⟨(i + 1), (bmp (bmp T (l.getD i default) ((vK T (l.getD i default)) + 1)) ((msort sq l).getD i default) ((vK (bmp T (l.getD i default) ((vK T (l.getD i default)) + 1)) ((msort sq l).getD i default)) - 1)), rfl, by omega, (mi_dn hMIu (by omega) rfl), rfl, h0_10, h5_10, h6_10, rfl, .p .h (.p .h (.p .h .nil))⟩⟩
        · -- number 7 first
          refine opS_0 rfl rfl ?_
          refine e_mapEntry (k := (l.getD i default)) Try.underlying79 rfl rfl .h ?_
          refine ⟨.inl (by simp), ?_⟩
          refine anyS_takeF (i := 8) rfl (by kernel_rfl) (by kernel_rfl) (by kernel_rfl) (by kernel_rfl) (Yq.of (v := .int .i64 ((((ixK T (l.getD i default)) : Nat) : Int))) (y_extract (v := .int .i64 ((((ixK T (l.getD i default)) : Nat) : Int))) rfl rfl) rfl) ?_
          refine anyS_all (rs := [5]) (by kernel_rfl) (by simp) ?_
          intro i hi; obtain rfl := List.mem_singleton.1 hi; clear hi
          refine opS_0 rfl rfl ?_
          refine OpE.y (v := .int .i64 ((vK T (l.getD i default)))) (y_lookupK (k := (l.getD i default)) (v := (vK T (l.getD i default))) Try.underlying79 rfl rfl .h (vK_ens _ _)) ?_
          refine ⟨.inl (by simp), ?_⟩
          refine anyS_takeF (i := 6) rfl (by kernel_rfl) (by kernel_rfl) (by kernel_rfl) (by kernel_rfl) (Yq.of (v := .int .i64 ((vK T (l.getD i default)) + 1)) (y_add (a := (vK T (l.getD i default))) (b := 1) (c := (vK T (l.getD i default)) + 1) rfl rfl (wI rfl (by omega) (by omega))) rfl) ?_
          refine anyS_all (rs := [9]) (by kernel_rfl) (by simp) ?_
          intro i hi; obtain rfl := List.mem_singleton.1 hi; clear hi
          refine opS_0 rfl rfl ?_
          refine e_entryStore (i := (ixK T (l.getD i default))) (k := (l.getD i default)) (v := (vK T (l.getD i default)) + 1) (l' := (bmp T (l.getD i default) ((vK T (l.getD i default)) + 1))) rfl rfl rfl .h (ens_lt _ _) (ens_key _ _) rfl ?_
          have hMIu := mi_up hMI (by omega) rfl; have hv2 := mi_bd hMIu ((msort sq l).getD i default)
          refine ⟨.inl (by simp), ?_⟩
          refine anyS_done (by kernel_rfl) ?_
          refine thenS_n ?_
          refine wpS_anyL [osl a_2 c_3 ((msort sq l).length) 4 23 ((msort sq l).flatMap recV)] [5, 6, 7, 8, 9] (by kernel_rfl) ?_
          refine anyS_take (i := 0) rfl (by kernel_rfl) (by kernel_rfl) (by kernel_rfl) (by kernel_rfl) (Yq.of (v := .map (some mp_9)) (y_move h6_10) rfl) (.p (.t (.t .h)) .nil) ?_
          refine anyS_all (rs := [1, 2]) (by kernel_rfl) (by simp) ?_
          intro i hi17; simp only [List.mem_cons, List.not_mem_nil, or_false] at hi17; rcases hi17 with rfl | rfl
          · -- number 1 first
            refine opS_0 rfl rfl ?_
            refine OpE.y (v := .slice a_2 ((msort sq l).length) c_3) (y_move h5_10) ?_
            refine ⟨.inr (.p (.t (.t .h)) .nil), ?_⟩
            refine anyS_all (rs := [2]) (by kernel_rfl) (by simp) ?_
            intro i hi; obtain rfl := List.mem_singleton.1 hi; clear hi
            refine opS_0 rfl rfl ?_
            refine OpE.y (v := .int .i64 (((i : Nat) : Int))) (y_move h7_10) ?_
            refine ⟨.inr (.p (.t (.t .h)) .nil), ?_⟩
            refine anyS_take (i := 3) rfl (by kernel_rfl) (by kernel_rfl) (by kernel_rfl) (by kernel_rfl) (Yq.of (v := .pointer (some ⟨aB a_2, aO a_2 + i * 4, none⟩)) (y_idx (o := i * 4) rfl rfl Try.underlying69 Try.sizeOf23 (oslR .h) (fl_len recV_len _) (by decide) (by omega) (by omega) (by omega)) rfl) (.p (.t (.t .h)) .nil) ?_
            refine anyS_take (i := 4) rfl (by kernel_rfl) (by kernel_rfl) (by kernel_rfl) (by kernel_rfl) (Yq.of (v := .agg #[.bool (((msort sq l).getD i default).dead), .int .i64 ((((msort sq l).getD i default).key).toInt), .int .i64 ((((msort sq l).getD i default).value).toInt), .int .i64 ((((msort sq l).getD i default).seq).toInt)]) (y_loadN (vs := recV ((msort sq l).getD i default)) rfl Try.isAgg23 Try.sizeOf23 (rdN (oslR .h) (fl_getN recV_len (msort sq l) i (by first | omega | (simp only [List.length_set, List.length_take, List.length_drop]; done) | (simp only [List.length_set, List.length_take, List.length_drop]; omega))))) rfl) (.p (.t (.t .h)) .nil) ?_
            refine anyS_all (rs := [5, 7]) (by kernel_rfl) (by simp) ?_
            intro i hi18; simp only [List.mem_cons, List.not_mem_nil, or_false] at hi18; rcases hi18 with rfl | rfl
            · -- number 5 first
              refine opS_0 rfl rfl ?_
              refine OpE.y (v := .int .i64 ((vK (bmp T (l.getD i default) ((vK T (l.getD i default)) + 1)) ((msort sq l).getD i default)))) (y_lookupK (k := ((msort sq l).getD i default)) (v := (vK (bmp T (l.getD i default) ((vK T (l.getD i default)) + 1)) ((msort sq l).getD i default))) Try.underlying79 rfl rfl .h rfl) ?_
              refine ⟨.inl (by simp), ?_⟩
              refine anyS_takeF (i := 6) rfl (by kernel_rfl) (by kernel_rfl) (by kernel_rfl) (by kernel_rfl) (Yq.of (v := .int .i64 ((vK (bmp T (l.getD i default) ((vK T (l.getD i default)) + 1)) ((msort sq l).getD i default)) - 1)) (y_sub (a := (vK (bmp T (l.getD i default) ((vK T (l.getD i default)) + 1)) ((msort sq l).getD i default))) (b := 1) (c := (vK (bmp T (l.getD i default) ((vK T (l.getD i default)) + 1)) ((msort sq l).getD i default)) - 1) rfl rfl (wI rfl (by omega) (by omega))) rfl) ?_
              refine anyS_all (rs := [7]) (by kernel_rfl) (by simp) ?_
              intro i hi; obtain rfl := List.mem_singleton.1 hi; clear hi
              refine opS_0 rfl rfl ?_
              refine e_mapEntry (k := ((msort sq l).getD i default)) Try.underlying79 rfl rfl .h ?_
              refine ⟨.inl (by simp), ?_⟩
              refine anyS_takeF (i := 8) rfl (by kernel_rfl) (by kernel_rfl) (by kernel_rfl) (by kernel_rfl) (Yq.of (v := .int .i64 ((((ixK (bmp T (l.getD i default) ((vK T (l.getD i default)) + 1)) ((msort sq l).getD i default)) : Nat) : Int))) (y_extract (v := .int .i64 ((((ixK (bmp T (l.getD i default) ((vK T (l.getD i default)) + 1)) ((msort sq l).getD i default)) : Nat) : Int))) rfl rfl) rfl) ?_
              refine anyS_all (rs := [9]) (by kernel_rfl) (by simp) ?_
              intro i hi; obtain rfl := List.mem_singleton.1 hi; clear hi
              refine opS_0 rfl rfl ?_
              refine e_entryStore (i := (ixK (bmp T (l.getD i default) ((vK T (l.getD i default)) + 1)) ((msort sq l).getD i default))) (k := ((msort sq l).getD i default)) (v := (vK (bmp T (l.getD i default) ((vK T (l.getD i default)) + 1)) ((msort sq l).getD i default)) - 1) (l' := (bmp (bmp T (l.getD i default) ((vK T (l.getD i default)) + 1)) ((msort sq l).getD i default) ((vK (bmp T (l.getD i default) ((vK T (l.getD i default)) + 1)) ((msort sq l).getD i default)) - 1))) rfl rfl rfl .h (ens_lt _ _) (ens_key _ _) rfl ?_
              refine ⟨.inl (by simp), ?_⟩
              refine anyS_done (by kernel_rfl) ?_
              refine blockS_n ?_
              refine thenS_n ?_
              refine wpS_region ?_
              refine s_y (v := .int .i64 (((i : Nat) : Int))) (y_move h7_10) rfl ?_
              refine s_y (v := .int .i64 ((((i + 1) : Nat) : Int))) (y_add (a := ((i : Nat) : Int)) (b := 1) (c := (((i + 1) : Nat) : Int)) rfl rfl (wI (by omega) (by omega) (by omega))) rfl ?_
              refine s_y (v := .int .i64 ((((i + 1) : Nat) : Int))) (y_assign rfl) rfl ?_
              refine wpL_nil ?_
              refine thenS_n ?_
              exact ⟨_, by omega, ⟨(i + 1), (bmp (bmp T (l.getD i default) ((vK T (l.getD i default)) + 1)) ((msort sq l).getD i default) ((vK (bmp T (l.getD i default) ((vK T (l.getD i default)) + 1)) ((msort sq l).getD i default)) - 1)), rfl, by omega, (mi_dn hMIu (by omega) rfl), rfl, h0_10, h5_10, h6_10, rfl, .p .h (.p .h (.p .h .nil))⟩⟩
            · -- number 7 first
              refine opS_0 rfl rfl ?_
              refine e_mapEntry (k := ((msort sq l).getD i default)) Try.underlying79 rfl rfl .h ?_
              refine ⟨.inl (by simp), ?_⟩
              refine anyS_takeF (i := 8) rfl (by kernel_rfl) (by kernel_rfl) (by kernel_rfl) (by kernel_rfl) (Yq.of (v := .int .i64 ((((ixK (bmp T (l.getD i default) ((vK T (l.getD i default)) + 1)) ((msort sq l).getD i default)) : Nat) : Int))) (y_extract (v := .int .i64 ((((ixK (bmp T (l.getD i default) ((vK T (l.getD i default)) + 1)) ((msort sq l).getD i default)) : Nat) : Int))) rfl rfl) rfl) ?_
              refine anyS_all (rs := [5]) (by kernel_rfl) (by simp) ?_
              intro i hi; obtain rfl := List.mem_singleton.1 hi; clear hi
              refine opS_0 rfl rfl ?_
              refine OpE.y (v := .int .i64 ((vK (bmp T (l.getD i default) ((vK T (l.getD i default)) + 1)) ((msort sq l).getD i default)))) (y_lookupK (k := ((msort sq l).getD i default)) (v := (vK (bmp T (l.getD i default) ((vK T (l.getD i default)) + 1)) ((msort sq l).getD i default))) Try.underlying79 rfl rfl .h (vK_ens _ _)) ?_
              refine ⟨.inl (by simp), ?_⟩
              refine anyS_takeF (i := 6) rfl (by kernel_rfl) (by kernel_rfl) (by kernel_rfl) (by kernel_rfl) (Yq.of (v := .int .i64 ((vK (bmp T (l.getD i default) ((vK T (l.getD i default)) + 1)) ((msort sq l).getD i default)) - 1)) (y_sub (a := (vK (bmp T (l.getD i default) ((vK T (l.getD i default)) + 1)) ((msort sq l).getD i default))) (b := 1) (c := (vK (bmp T (l.getD i default) ((vK T (l.getD i default)) + 1)) ((msort sq l).getD i default)) - 1) rfl rfl (wI rfl (by omega) (by omega))) rfl) ?_
              refine anyS_all (rs := [9]) (by kernel_rfl) (by simp) ?_
              intro i hi; obtain rfl := List.mem_singleton.1 hi; clear hi
              refine opS_0 rfl rfl ?_
              refine e_entryStore (i := (ixK (bmp T (l.getD i default) ((vK T (l.getD i default)) + 1)) ((msort sq l).getD i default))) (k := ((msort sq l).getD i default)) (v := (vK (bmp T (l.getD i default) ((vK T (l.getD i default)) + 1)) ((msort sq l).getD i default)) - 1) (l' := (bmp (bmp T (l.getD i default) ((vK T (l.getD i default)) + 1)) ((msort sq l).getD i default) ((vK (bmp T (l.getD i default) ((vK T (l.getD i default)) + 1)) ((msort sq l).getD i default)) - 1))) rfl rfl rfl .h (ens_lt _ _) (ens_key _ _) rfl ?_
              refine ⟨.inl (by simp), ?_⟩
              refine anyS_done (by kernel_rfl) ?_
              refine blockS_n ?_
              refine thenS_n ?_
              refine wpS_region ?_
              refine s_y (v := .int .i64 (((i : Nat) : Int))) (y_move h7_10) rfl ?_
              refine s_y (v := .int .i64 ((((i + 1) : Nat) : Int))) (y_add (a := ((i : Nat) : Int)) (b := 1) (c := (((i + 1) : Nat) : Int)) rfl rfl (wI (by omega) (by omega) (by omega))) rfl ?_
              refine s_y (v := .int .i64 ((((i + 1) : Nat) : Int))) (y_assign rfl) rfl ?_
              refine wpL_nil ?_
              refine thenS_n ?_
              exact ⟨_, by omega, ⟨(i + 1), (bmp (bmp T (l.getD i default) ((vK T (l.getD i default)) + 1)) ((msort sq l).getD i default) ((vK (bmp T (l.getD i default) ((vK T (l.getD i default)) + 1)) ((msort sq l).getD i default)) - 1)), rfl, by omega, (mi_dn hMIu (by omega) rfl), rfl, h0_10, h5_10, h6_10, rfl, .p .h (.p .h (.p .h .nil))⟩⟩
          · -- number 2 first
            refine opS_0 rfl rfl ?_
            refine OpE.y (v := .int .i64 (((i : Nat) : Int))) (y_move h7_10) ?_
            refine ⟨.inr (.p (.t (.t .h)) .nil), ?_⟩
            refine anyS_all (rs := [1]) (by kernel_rfl) (by simp) ?_
            intro i hi; obtain rfl := List.mem_singleton.1 hi; clear hi
            refine opS_0 rfl rfl ?_
            refine OpE.y (v := .slice a_2 ((msort sq l).length) c_3) (y_move h5_10) ?_
            refine ⟨.inr (.p (.t (.t .h)) .nil), ?_⟩
            refine anyS_take (i := 3) rfl (by kernel_rfl) (by kernel_rfl) (by kernel_rfl) (by kernel_rfl) (Yq.of (v := .pointer (some ⟨aB a_2, aO a_2 + i * 4, none⟩)) (y_idx (o := i * 4) rfl rfl Try.underlying69 Try.sizeOf23 (oslR .h) (fl_len recV_len _) (by decide) (by omega) (by omega) (by omega)) rfl) (.p (.t (.t .h)) .nil) ?_
            refine anyS_take (i := 4) rfl (by kernel_rfl) (by kernel_rfl) (by kernel_rfl) (by kernel_rfl) (Yq.of (v := .agg #[.bool (((msort sq l).getD i default).dead), .int .i64 ((((msort sq l).getD i default).key).toInt), .int .i64 ((((msort sq l).getD i default).value).toInt), .int .i64 ((((msort sq l).getD i default).seq).toInt)]) (y_loadN (vs := recV ((msort sq l).getD i default)) rfl Try.isAgg23 Try.sizeOf23 (rdN (oslR .h) (fl_getN recV_len (msort sq l) i (by first | omega | (simp only [List.length_set, List.length_take, List.length_drop]; done) | (simp only [List.length_set, List.length_take, List.length_drop]; omega))))) rfl) (.p (.t (.t .h)) .nil) ?_
            refine anyS_all (rs := [5, 7]) (by kernel_rfl) (by simp) ?_
            intro i hi19; simp only [List.mem_cons, List.not_mem_nil, or_false] at hi19; rcases hi19 with rfl | rfl
            · -- number 5 first
              refine opS_0 rfl rfl ?_
              refine OpE.y (v := .int .i64 ((vK (bmp T (l.getD i default) ((vK T (l.getD i default)) + 1)) ((msort sq l).getD i default)))) (y_lookupK (k := ((msort sq l).getD i default)) (v := (vK (bmp T (l.getD i default) ((vK T (l.getD i default)) + 1)) ((msort sq l).getD i default))) Try.underlying79 rfl rfl .h rfl) ?_
              refine ⟨.inl (by simp), ?_⟩
              refine anyS_takeF (i := 6) rfl (by kernel_rfl) (by kernel_rfl) (by kernel_rfl) (by kernel_rfl) (Yq.of (v := .int .i64 ((vK (bmp T (l.getD i default) ((vK T (l.getD i default)) + 1)) ((msort sq l).getD i default)) - 1)) (y_sub (a := (vK (bmp T (l.getD i default) ((vK T (l.getD i default)) + 1)) ((msort sq l).getD i default))) (b := 1) (c := (vK (bmp T (l.getD i default) ((vK T (l.getD i default)) + 1)) ((msort sq l).getD i default)) - 1) rfl rfl (wI rfl (by omega) (by omega))) rfl) ?_
              refine anyS_all (rs := [7]) (by kernel_rfl) (by simp) ?_
              intro i hi; obtain rfl := List.mem_singleton.1 hi; clear hi
              refine opS_0 rfl rfl ?_
              refine e_mapEntry (k := ((msort sq l).getD i default)) Try.underlying79 rfl rfl .h ?_
              refine ⟨.inl (by simp), ?_⟩
              refine anyS_takeF (i := 8) rfl (by kernel_rfl) (by kernel_rfl) (by kernel_rfl) (by kernel_rfl) (Yq.of (v := .int .i64 ((((ixK (bmp T (l.getD i default) ((vK T (l.getD i default)) + 1)) ((msort sq l).getD i default)) : Nat) : Int))) (y_extract (v := .int .i64 ((((ixK (bmp T (l.getD i default) ((vK T (l.getD i default)) + 1)) ((msort sq l).getD i default)) : Nat) : Int))) rfl rfl) rfl) ?_
              refine anyS_all (rs := [9]) (by kernel_rfl) (by simp) ?_
              intro i hi; obtain rfl := List.mem_singleton.1 hi; clear hi
              refine opS_0 rfl rfl ?_
              refine e_entryStore (i := (ixK (bmp T (l.getD i default) ((vK T (l.getD i default)) + 1)) ((msort sq l).getD i default))) (k := ((msort sq l).getD i default)) (v := (vK (bmp T (l.getD i default) ((vK T (l.getD i default)) + 1)) ((msort sq l).getD i default)) - 1) (l' := (bmp (bmp T (l.getD i default) ((vK T (l.getD i default)) + 1)) ((msort sq l).getD i default) ((vK (bmp T (l.getD i default) ((vK T (l.getD i default)) + 1)) ((msort sq l).getD i default)) - 1))) rfl rfl rfl .h (ens_lt _ _) (ens_key _ _) rfl ?_
              refine ⟨.inl (by simp), ?_⟩
              refine anyS_done (by kernel_rfl) ?_
              refine blockS_n ?_
              refine thenS_n ?_
              refine wpS_region ?_
              refine s_y (v := .int .i64 (((i : Nat) : Int))) (y_move h7_10) rfl ?_
              refine s_y (v := .int .i64 ((((i + 1) : Nat) : Int))) (y_add (a := ((i : Nat) : Int)) (b := 1) (c := (((i + 1) : Nat) : Int)) rfl rfl (wI (by omega) (by omega) (by omega))) rfl ?_
              refine s_y (v := .int .i64 ((((i + 1) : Nat) : Int))) (y_assign rfl) rfl ?_
              refine wpL_nil ?_
              refine thenS_n ?_
              exact ⟨_, by omega, ⟨(i + 1), (bmp (bmp T (l.getD i default) ((vK T (l.getD i default)) + 1)) ((msort sq l).getD i default) ((vK (bmp T (l.getD i default) ((vK T (l.getD i default)) + 1)) ((msort sq l).getD i default)) - 1)), rfl, by omega, (mi_dn hMIu (by omega) rfl), rfl, h0_10, h5_10, h6_10, rfl, .p .h (.p .h (.p .h .nil))⟩⟩
            · -- number 7 first
              refine opS_0 rfl rfl ?_
              refine e_mapEntry (k := ((msort sq l).getD i default)) Try.underlying79 rfl rfl .h ?_
              refine ⟨.inl (by simp), ?_⟩
              refine anyS_takeF (i := 8) rfl (by kernel_rfl) (by kernel_rfl) (by kernel_rfl) (by kernel_rfl) (Yq.of (v := .int .i64 ((((ixK (bmp T (l.getD i default) ((vK T (l.getD i default)) + 1)) ((msort sq l).getD i default)) : Nat) : Int))) (y_extract (v := .int .i64 ((((ixK (bmp T (l.getD i default) ((vK T (l.getD i default)) + 1)) ((msort sq l).getD i default)) : Nat) : Int))) rfl rfl) rfl) ?_
              refine anyS_all (rs := [5]) (by kernel_rfl) (by simp) ?_
              intro i hi; obtain rfl := List.mem_singleton.1 hi; clear hi
              refine opS_0 rfl rfl ?_
              refine OpE.y (v := .int .i64 ((vK (bmp T (l.getD i default) ((vK T (l.getD i default)) + 1)) ((msort sq l).getD i default)))) (y_lookupK (k := ((msort sq l).getD i default)) (v := (vK (bmp T (l.getD i default) ((vK T (l.getD i default)) + 1)) ((msort sq l).getD i default))) Try.underlying79 rfl rfl .h (vK_ens _ _)) ?_
              refine ⟨.inl (by simp), ?_⟩
              refine anyS_takeF (i := 6) rfl (by kernel_rfl) (by kernel_rfl) (by kernel_rfl) (by kernel_rfl) (Yq.of (v := .int .i64 ((vK (bmp T (l.getD i default) ((vK T (l.getD i default)) + 1)) ((msort sq l).getD i default)) - 1)) (y_sub (a := (vK (bmp T (l.getD i default) ((vK T (l.getD i default)) + 1)) ((msort sq l).getD i default))) (b := 1) (c := (vK (bmp T (l.getD i default) ((vK T (l.getD i default)) + 1)) ((msort sq l).getD i default)) - 1) rfl rfl (wI rfl (by omega) (by omega))) rfl) ?_
              refine anyS_all (rs := [9]) (by kernel_rfl) (by simp) ?_
              intro i hi; obtain rfl := List.mem_singleton.1 hi; clear hi
              refine opS_0 rfl rfl ?_
              refine e_entryStore (i := (ixK (bmp T (l.getD i default) ((vK T (l.getD i default)) + 1)) ((msort sq l).getD i default))) (k := ((msort sq l).getD i default)) (v := (vK (bmp T (l.getD i default) ((vK T (l.getD i default)) + 1)) ((msort sq l).getD i default)) - 1) (l' := (bmp (bmp T (l.getD i default) ((vK T (l.getD i default)) + 1)) ((msort sq l).getD i default) ((vK (bmp T (l.getD i default) ((vK T (l.getD i default)) + 1)) ((msort sq l).getD i default)) - 1))) rfl rfl rfl .h (ens_lt _ _) (ens_key _ _) rfl ?_
              refine ⟨.inl (by simp), ?_⟩
              refine anyS_done (by kernel_rfl) ?_
              refine blockS_n ?_
              refine thenS_n ?_
              refine wpS_region ?_
              refine s_y (v := .int .i64 (((i : Nat) : Int))) (y_move h7_10) rfl ?_
              refine s_y (v := .int .i64 ((((i + 1) : Nat) : Int))) (y_add (a := ((i : Nat) : Int)) (b := 1) (c := (((i + 1) : Nat) : Int)) rfl rfl (wI (by omega) (by omega) (by omega))) rfl ?_
              refine s_y (v := .int .i64 ((((i + 1) : Nat) : Int))) (y_assign rfl) rfl ?_
              refine wpL_nil ?_
              refine thenS_n ?_
              exact ⟨_, by omega, ⟨(i + 1), (bmp (bmp T (l.getD i default) ((vK T (l.getD i default)) + 1)) ((msort sq l).getD i default) ((vK (bmp T (l.getD i default) ((vK T (l.getD i default)) + 1)) ((msort sq l).getD i default)) - 1)), rfl, by omega, (mi_dn hMIu (by omega) rfl), rfl, h0_10, h5_10, h6_10, rfl, .p .h (.p .h (.p .h .nil))⟩⟩
      · -- number 2 first
        refine opS_0 rfl rfl ?_
        refine OpE.y (v := .int .i64 (((i : Nat) : Int))) (y_move h7_10) ?_
        refine ⟨.inr (.nil), ?_⟩
        refine anyS_all (rs := [1]) (by kernel_rfl) (by simp) ?_
        intro i hi; obtain rfl := List.mem_singleton.1 hi; clear hi
        refine opS_0 rfl rfl ?_
        refine OpE.y (v := .slice a na ca) (y_move h0_10) ?_
        refine ⟨.inr (.nil), ?_⟩
        refine anyS_take (i := 3) rfl (by kernel_rfl) (by kernel_rfl) (by kernel_rfl) (by kernel_rfl) (Yq.of (v := .pointer (some ⟨aB a, aO a + i * 4, none⟩)) (y_idx (o := i * 4) rfl rfl Try.underlying69 Try.sizeOf23 (oldR hra) ((fl_len recV_len _).trans (by first | omega | (simp only [List.length_set, List.length_take, List.length_drop]; done) | (simp only [List.length_set, List.length_take, List.length_drop]; omega))) (by decide) (by omega) (by omega) (by omega)) rfl) (.nil) ?_
        refine anyS_take (i := 4) rfl (by kernel_rfl) (by kernel_rfl) (by kernel_rfl) (by kernel_rfl) (Yq.of (v := .agg #[.bool ((l.getD i default).dead), .int .i64 (((l.getD i default).key).toInt), .int .i64 (((l.getD i default).value).toInt), .int .i64 (((l.getD i default).seq).toInt)]) (y_loadN (vs := recV (l.getD i default)) rfl Try.isAgg23 Try.sizeOf23 (rdN (oldR hra) (fl_getN recV_len l i (by first | omega | (simp only [List.length_set, List.length_take, List.length_drop]; done) | (simp only [List.length_set, List.length_take, List.length_drop]; omega))))) rfl) (.nil) ?_
        refine anyS_all (rs := [5, 7]) (by kernel_rfl) (by simp) ?_
        intro i hi20; simp only [List.mem_cons, List.not_mem_nil, or_false] at hi20; rcases hi20 with rfl | rfl
        · -- number 5 first
          refine opS_0 rfl rfl ?_
          refine OpE.y (v := .int .i64 ((vK T (l.getD i default)))) (y_lookupK (k := (l.getD i default)) (v := (vK T (l.getD i default))) Try.underlying79 rfl rfl .h rfl) ?_
          refine ⟨.inl (by simp), ?_⟩
          refine anyS_takeF (i := 6) rfl (by kernel_rfl) (by kernel_rfl) (by kernel_rfl) (by kernel_rfl) (Yq.of (v := .int .i64 ((vK T (l.getD i default)) + 1)) (y_add (a := (vK T (l.getD i default))) (b := 1) (c := (vK T (l.getD i default)) + 1) rfl rfl (wI rfl (by omega) (by omega))) rfl) ?_
          refine anyS_all (rs := [7]) (by kernel_rfl) (by simp) ?_
          intro i hi; obtain rfl := List.mem_singleton.1 hi; clear hi
          refine opS_0 rfl rfl ?_
          refine e_mapEntry (k := (l.getD i default)) Try.underlying79 rfl rfl .h ?_
          refine ⟨.inl (by simp), ?_⟩
          refine anyS_takeF (i := 8) rfl (by kernel_rfl) (by kernel_rfl) (by kernel_rfl) (by kernel_rfl) (Yq.of (v := .int .i64 ((((ixK T (l.getD i default)) : Nat) : Int))) (y_extract (v := .int .i64 ((((ixK T (l.getD i default)) : Nat) : Int))) rfl rfl) rfl) ?_
          refine anyS_all (rs := [9]) (by kernel_rfl) (by simp) ?_
          intro i hi; obtain rfl := List.mem_singleton.1 hi; clear hi
          refine opS_0 rfl rfl ?_
          refine e_entryStore (i := (ixK T (l.getD i default))) (k := (l.getD i default)) (v := (vK T (l.getD i default)) + 1) (l' := (bmp T (l.getD i default) ((vK T (l.getD i default)) + 1))) rfl rfl rfl .h (ens_lt _ _) (ens_key _ _) rfl ?_
          have hMIu := mi_up hMI (by omega) rfl; have hv2 := mi_bd hMIu ((msort sq l).getD i default)
          refine ⟨.inl (by simp), ?_⟩
          refine anyS_done (by kernel_rfl) ?_
          refine thenS_n ?_
          refine wpS_anyL [osl a_2 c_3 ((msort sq l).length) 4 23 ((msort sq l).flatMap recV)] [5, 6, 7, 8, 9] (by kernel_rfl) ?_
          refine anyS_take (i := 0) rfl (by kernel_rfl) (by kernel_rfl) (by kernel_rfl) (by kernel_rfl) (Yq.of (v := .map (some mp_9)) (y_move h6_10) rfl) (.p (.t (.t .h)) .nil) ?_
          refine anyS_all (rs := [1, 2]) (by kernel_rfl) (by simp) ?_
          intro i hi21; simp only [List.mem_cons, List.not_mem_nil, or_false] at hi21; rcases hi21 with rfl | rfl
          · -- number 1 first
            refine opS_0 rfl rfl ?_
            refine OpE.y (v := .slice a_2 ((msort sq l).length) c_3) (y_move h5_10) ?_
            refine ⟨.inr (.p (.t (.t .h)) .nil), ?_⟩
            refine anyS_all (rs := [2]) (by kernel_rfl) (by simp) ?_
            intro i hi; obtain rfl := List.mem_singleton.1 hi; clear hi
            refine opS_0 rfl rfl ?_
            refine OpE.y (v := .int .i64 (((i : Nat) : Int))) (y_move h7_10) ?_
            refine ⟨.inr (.p (.t (.t .h)) .nil), ?_⟩
            refine anyS_take (i := 3) rfl (by kernel_rfl) (by kernel_rfl) (by kernel_rfl) (by kernel_rfl) (Yq.of (v := .pointer (some ⟨aB a_2, aO a_2 + i * 4, none⟩)) (y_idx (o := i * 4) rfl rfl Try.underlying69 Try.sizeOf23 (oslR .h) (fl_len recV_len _) (by decide) (by omega) (by omega) (by omega)) rfl) (.p (.t (.t .h)) .nil) ?_
            refine anyS_take (i := 4) rfl (by kernel_rfl) (by kernel_rfl) (by kernel_rfl) (by kernel_rfl) (Yq.of (v := .agg #[.bool (((msort sq l).getD i default).dead), .int .i64 ((((msort sq l).getD i default).key).toInt), .int .i64 ((((msort sq l).getD i default).value).toInt), .int .i64 ((((msort sq l).getD i default).seq).toInt)]) (y_loadN (vs := recV ((msort sq l).getD i default)) rfl Try.isAgg23 Try.sizeOf23 (rdN (oslR .h) (fl_getN recV_len (msort sq l) i (by first | omega | (simp only [List.length_set, List.length_take, List.length_drop]; done) | (simp only [List.length_set, List.length_take, List.length_drop]; omega))))) rfl) (.p (.t (.t .h)) .nil) ?_
            refine anyS_all (rs := [5, 7]) (by kernel_rfl) (by simp) ?_
            intro i hi22; simp only [List.mem_cons, List.not_mem_nil, or_false] at hi22; rcases hi22 with rfl | rfl
            · -- number 5 first
              refine opS_0 rfl rfl ?_
              refine OpE.y (v := .int .i64 ((vK (bmp T (l.getD i default) ((vK T (l.getD i default)) + 1)) ((msort sq l).getD i default)))) (y_lookupK (k := ((msort sq l).getD i default)) (v := (vK (bmp T (l.getD i default) ((vK T (l.getD i default)) + 1)) ((msort sq l).getD i default))) Try.underlying79 rfl rfl .h rfl) ?_
              refine ⟨.inl (by simp), ?_⟩
              refine anyS_takeF (i := 6) rfl (by kernel_rfl) (by kernel_rfl) (by kernel_rfl) (by kernel_rfl) (Yq.of (v := .int .i64 ((vK (bmp T (l.getD i default) ((vK T (l.getD i default)) + 1)) ((msort sq l).getD i default)) - 1)) (y_sub (a := (vK (bmp T (l.getD i default) ((vK T (l.getD i default)) + 1)) ((msort sq l).getD i default))) (b := 1) (c := (vK (bmp T (l.getD i default) ((vK T (l.getD i default)) + 1)) ((msort sq l).getD i default)) - 1) rfl rfl (wI rfl (by omega) (by omega))) rfl) ?_
              refine anyS_all (rs := [7]) (by kernel_rfl) (by simp) ?_
              intro i hi; obtain rfl := List.mem_singleton.1 hi; clear hi
              refine opS_0 rfl rfl ?_
              refine e_mapEntry (k := ((msort sq l).getD i default)) Try.underlying79 rfl rfl .h ?_
              refine ⟨.inl (by simp), ?_⟩
              refine anyS_takeF (i := 8) rfl (by kernel_rfl) (by kernel_rfl) (by kernel_rfl) (by kernel_rfl) (Yq.of (v := .int .i64 ((((ixK (bmp T (l.getD i default) ((vK T (l.getD i default)) + 1)) ((msort sq l).getD i default)) : Nat) : Int))) (y_extract (v := .int .i64 ((((ixK (bmp T (l.getD i default) ((vK T (l.getD i default)) + 1)) ((msort sq l).getD i default)) : Nat) : Int))) rfl rfl) rfl) ?_
              refine anyS_all (rs := [9]) (by kernel_rfl) (by simp) ?_
              intro i hi; obtain rfl := List.mem_singleton.1 hi; clear hi
              refine opS_0 rfl rfl ?_
              refine e_entryStore (i := (ixK (bmp T (l.getD i default) ((vK T (l.getD i default)) + 1)) ((msort sq l).getD i default))) (k := ((msort sq l).getD i default)) (v := (vK (bmp T (l.getD i default) ((vK T (l.getD i default)) + 1)) ((msort sq l).getD i default)) - 1) (l' := (bmp (bmp T (l.getD i default) ((vK T (l.getD i default)) + 1)) ((msort sq l).getD i default) ((vK (bmp T (l.getD i default) ((vK T (l.getD i default)) + 1)) ((msort sq l).getD i default)) - 1))) rfl rfl rfl .h (ens_lt _ _) (ens_key _ _) rfl ?_
              refine ⟨.inl (by simp), ?_⟩
              refine anyS_done (by kernel_rfl) ?_
              refine blockS_n ?_
              refine thenS_n ?_
              refine wpS_region ?_
              refine s_y (v := .int .i64 (((i : Nat) : Int))) (y_move h7_10) rfl ?_
              refine s_y (v := .int .i64 ((((i + 1) : Nat) : Int))) (y_add (a := ((i : Nat) : Int)) (b := 1) (c := (((i + 1) : Nat) : Int)) rfl rfl (wI (by omega) (by omega) (by omega))) rfl ?_
              refine s_y (v := .int .i64 ((((i + 1) : Nat) : Int))) (y_assign rfl) rfl ?_
              refine wpL_nil ?_
              refine thenS_n ?_
              exact ⟨_, by omega, ⟨(i + 1), (bmp (bmp T (l.getD i default) ((vK T (l.getD i default)) + 1)) ((msort sq l).getD i default) ((vK (bmp T (l.getD i default) ((vK T (l.getD i default)) + 1)) ((msort sq l).getD i default)) - 1)), rfl, by omega, (mi_dn hMIu (by omega) rfl), rfl, h0_10, h5_10, h6_10, rfl, .p .h (.p .h (.p .h .nil))⟩⟩
            · -- number 7 first
              refine opS_0 rfl rfl ?_
              refine e_mapEntry (k := ((msort sq l).getD i default)) Try.underlying79 rfl rfl .h ?_
              refine ⟨.inl (by simp), ?_⟩
              refine anyS_takeF (i := 8) rfl (by kernel_rfl) (by kernel_rfl) (by kernel_rfl) (by kernel_rfl) (Yq.of (v := .int .i64 ((((ixK (bmp T (l.getD i default) ((vK T (l.getD i default)) + 1)) ((msort sq l).getD i default)) : Nat) : Int))) (y_extract (v := .int .i64 ((((ixK (bmp T (l.getD i default) ((vK T (l.getD i default)) + 1)) ((msort sq l).getD i default)) : Nat) : Int))) rfl rfl) rfl) ?_
              refine anyS_all (rs := [5]) (by kernel_rfl) (by simp) ?_
              intro i hi; obtain rfl := List.mem_singleton.1 hi; clear hi
              refine opS_0 rfl rfl ?_
              refine OpE.y (v := .int .i64 ((vK (bmp T (l.getD i default) ((vK T (l.getD i default)) + 1)) ((msort sq l).getD i default)))) (y_lookupK (k := ((msort sq l).getD i default)) (v := (vK (bmp T (l.getD i default) ((vK T (l.getD i default)) + 1)) ((msort sq l).getD i default))) Try.underlying79 rfl rfl .h (vK_ens _ _)) ?_
              refine ⟨.inl (by simp), ?_⟩
              refine anyS_takeF (i := 6) rfl (by kernel_rfl) (by kernel_rfl) (by kernel_rfl) (by kernel_rfl) (Yq.of (v := .int .i64 ((vK (bmp T (l.getD i default) ((vK T (l.getD i default)) + 1)) ((msort sq l).getD i default)) - 1)) (y_sub (a := (vK (bmp T (l.getD i default) ((vK T (l.getD i default)) + 1)) ((msort sq l).getD i default))) (b := 1) (c := (vK (bmp T (l.getD i default) ((vK T (l.getD i default)) + 1)) ((msort sq l).getD i default)) - 1) rfl rfl (wI rfl (by omega) (by omega))) rfl) ?_
              refine anyS_all (rs := [9]) (by kernel_rfl) (by simp) ?_
              intro i hi; obtain rfl := List.mem_singleton.1 hi; clear hi
              refine opS_0 rfl rfl ?_
              refine e_entryStore (i := (ixK (bmp T (l.getD i default) ((vK T (l.getD i default)) + 1)) ((msort sq l).getD i default))) (k := ((msort sq l).getD i default)) (v := (vK (bmp T (l.getD i default) ((vK T (l.getD i default)) + 1)) ((msort sq l).getD i default)) - 1) (l' := (bmp (bmp T (l.getD i default) ((vK T (l.getD i default)) + 1)) ((msort sq l).getD i default) ((vK (bmp T (l.getD i default) ((vK T (l.getD i default)) + 1)) ((msort sq l).getD i default)) - 1))) rfl rfl rfl .h (ens_lt _ _) (ens_key _ _) rfl ?_
              refine ⟨.inl (by simp), ?_⟩
              refine anyS_done (by kernel_rfl) ?_
              refine blockS_n ?_
              refine thenS_n ?_
              refine wpS_region ?_
              refine s_y (v := .int .i64 (((i : Nat) : Int))) (y_move h7_10) rfl ?_
              refine s_y (v := .int .i64 ((((i + 1) : Nat) : Int))) (y_add (a := ((i : Nat) : Int)) (b := 1) (c := (((i + 1) : Nat) : Int)) rfl rfl (wI (by omega) (by omega) (by omega))) rfl ?_
              refine s_y (v := .int .i64 ((((i + 1) : Nat) : Int))) (y_assign rfl) rfl ?_
              refine wpL_nil ?_
              refine thenS_n ?_
              exact ⟨_, by omega, ⟨(i + 1), (bmp (bmp T (l.getD i default) ((vK T (l.getD i default)) + 1)) ((msort sq l).getD i default) ((vK (bmp T (l.getD i default) ((vK T (l.getD i default)) + 1)) ((msort sq l).getD i default)) - 1)), rfl, by omega, (mi_dn hMIu (by omega) rfl), rfl, h0_10, h5_10, h6_10, rfl, .p .h (.p .h (.p .h .nil))⟩⟩
          · -- number 2 first
            refine opS_0 rfl rfl ?_
            refine OpE.y (v := .int .i64 (((i : Nat) : Int))) (y_move h7_10) ?_
            refine ⟨.inr (.p (.t (.t .h)) .nil), ?_⟩
            refine anyS_all (rs := [1]) (by kernel_rfl) (by simp) ?_
            intro i hi; obtain rfl := List.mem_singleton.1 hi; clear hi
            refine opS_0 rfl rfl ?_
            refine OpE.y (v := .slice a_2 ((msort sq l).length) c_3) (y_move h5_10) ?_
            refine ⟨.inr (.p (.t (.t .h)) .nil), ?_⟩
            refine anyS_take (i := 3) rfl (by kernel_rfl) (by kernel_rfl) (by kernel_rfl) (by kernel_rfl) (Yq.of (v := .pointer (some ⟨aB a_2, aO a_2 + i * 4, none⟩)) (y_idx (o := i * 4) rfl rfl Try.underlying69 Try.sizeOf23 (oslR .h) (fl_len recV_len _) (by decide) (by omega) (by omega) (by omega)) rfl) (.p (.t (.t .h)) .nil) ?_
            refine anyS_take (i := 4) rfl (by kernel_rfl) (by kernel_rfl) (by kernel_rfl) (by kernel_rfl) (Yq.of (v := .agg #[.bool (((msort sq l).getD i default).dead), .int .i64 ((((msort sq l).getD i default).key).toInt), .int .i64 ((((msort sq l).getD i default).value).toInt), .int .i64 ((((msort sq l).getD i default).seq).toInt)]) (y_loadN (vs := recV ((msort sq l).getD i default)) rfl Try.isAgg23 Try.sizeOf23 (rdN (oslR .h) (fl_getN recV_len (msort sq l) i (by first | omega | (simp only [List.length_set, List.length_take, List.length_drop]; done) | (simp only [List.length_set, List.length_take, List.length_drop]; omega))))) rfl) (.p (.t (.t .h)) .nil) ?_
            refine anyS_all (rs := [5, 7]) (by kernel_rfl) (by simp) ?_
            intro i hi23; simp only [List.mem_cons, List.not_mem_nil, or_false] at hi23; rcases hi23 with rfl | rfl
            · -- number 5 first
              refine opS_0 rfl rfl ?_
              refine OpE.y (v := .int .i64 ((vK (bmp T (l.getD i default) ((vK T (l.getD i default)) + 1)) ((msort sq l).getD i default)))) (y_lookupK (k := ((msort sq l).getD i default)) (v := (vK (bmp T (l.getD i default) ((vK T (l.getD i default)) + 1)) ((msort sq l).getD i default))) Try.underlying79 rfl rfl .h rfl) ?_
              refine ⟨.inl (by simp), ?_⟩
              refine anyS_takeF (i := 6) rfl (by kernel_rfl) (by kernel_rfl) (by kernel_rfl) (by kernel_rfl) (Yq.of (v := .int .i64 ((vK (bmp T (l.getD i default) ((vK T (l.getD i default)) + 1)) ((msort sq l).getD i default)) - 1)) (y_sub (a := (vK (bmp T (l.getD i default) ((vK T (l.getD i default)) + 1)) ((msort sq l).getD i default))) (b := 1) (c := (vK (bmp T (l.getD i default) ((vK T (l.getD i default)) + 1)) ((msort sq l).getD i default)) - 1) rfl rfl (wI rfl (by omega) (by omega))) rfl) ?_
              refine anyS_all (rs := [7]) (by kernel_rfl) (by simp) ?_
              intro i hi; obtain rfl := List.mem_singleton.1 hi; clear hi
              refine opS_0 rfl rfl ?_
              refine e_mapEntry (k := ((msort sq l).getD i default)) Try.underlying79 rfl rfl .h ?_
              refine ⟨.inl (by simp), ?_⟩
              refine anyS_takeF (i := 8) rfl (by kernel_rfl) (by kernel_rfl) (by kernel_rfl) (by kernel_rfl) (Yq.of (v := .int .i64 ((((ixK (bmp T (l.getD i default) ((vK T (l.getD i default)) + 1)) ((msort sq l).getD i default)) : Nat) : Int))) (y_extract (v := .int .i64 ((((ixK (bmp T (l.getD i default) ((vK T (l.getD i default)) + 1)) ((msort sq l).getD i default)) : Nat) : Int))) rfl rfl) rfl) ?_
              refine anyS_all (rs := [9]) (by kernel_rfl) (by simp) ?_
              intro i hi; obtain rfl := List.mem_singleton.1 hi; clear hi
              refine opS_0 rfl rfl ?_
              refine e_entryStore (i := (ixK (bmp T (l.getD i default) ((vK T (l.getD i default)) + 1)) ((msort sq l).getD i default))) (k := ((msort sq l).getD i default)) (v := (vK (bmp T (l.getD i default) ((vK T (l.getD i default)) + 1)) ((msort sq l).getD i default)) - 1) (l' := (bmp (bmp T (l.getD i default) ((vK T (l.getD i default)) + 1)) ((msort sq l).getD i default) ((vK (bmp T (l.getD i default) ((vK T (l.getD i default)) + 1)) ((msort sq l).getD i default)) - 1))) rfl rfl rfl .h (ens_lt _ _) (ens_key _ _) rfl ?_
              refine ⟨.inl (by simp), ?_⟩
              refine anyS_done (by kernel_rfl) ?_
              refine blockS_n ?_
              refine thenS_n ?_
              refine wpS_region ?_
              refine s_y (v := .int .i64 (((i : Nat) : Int))) (y_move h7_10) rfl ?_
              refine s_y (v := .int .i64 ((((i + 1) : Nat) : Int))) (y_add (a := ((i : Nat) : Int)) (b := 1) (c := (((i + 1) : Nat) : Int)) rfl rfl (wI (by omega) (by omega) (by omega))) rfl ?_
              refine s_y (v := .int .i64 ((((i + 1) : Nat) : Int))) (y_assign rfl) rfl ?_
              refine wpL_nil ?_
              refine thenS_n ?_
              exact ⟨_, by omega, ⟨(i + 1), (bmp (bmp T (l.getD i default) ((vK T (l.getD i default)) + 1)) ((msort sq l).getD i default) ((vK (bmp T (l.getD i default) ((vK T (l.getD i default)) + 1)) ((msort sq l).getD i default)) - 1)), rfl, by omega, (mi_dn hMIu (by omega) rfl), rfl, h0_10, h5_10, h6_10, rfl, .p .h (.p .h (.p .h .nil))⟩⟩
            · -- number 7 first
              refine opS_0 rfl rfl ?_
              refine e_mapEntry (k := ((msort sq l).getD i default)) Try.underlying79 rfl rfl .h ?_
              refine ⟨.inl (by simp), ?_⟩
              refine anyS_takeF (i := 8) rfl (by kernel_rfl) (by kernel_rfl) (by kernel_rfl) (by kernel_rfl) (Yq.of (v := .int .i64 ((((ixK (bmp T (l.getD i default) ((vK T (l.getD i default)) + 1)) ((msort sq l).getD i default)) : Nat) : Int))) (y_extract (v := .int .i64 ((((ixK (bmp T (l.getD i default) ((vK T (l.getD i default)) + 1)) ((msort sq l).getD i default)) : Nat) : Int))) rfl rfl) rfl) ?_
              refine anyS_all (rs := [5]) (by kernel_rfl) (by simp) ?_
              intro i hi; obtain rfl := List.mem_singleton.1 hi; clear hi
              refine opS_0 rfl rfl ?_
              refine OpE.y (v := .int .i64 ((vK (bmp T (l.getD i default) ((vK T (l.getD i default)) + 1)) ((msort sq l).getD i default)))) (y_lookupK (k := ((msort sq l).getD i default)) (v := (vK (bmp T (l.getD i default) ((vK T (l.getD i default)) + 1)) ((msort sq l).getD i default))) Try.underlying79 rfl rfl .h (vK_ens _ _)) ?_
              refine ⟨.inl (by simp), ?_⟩
              refine anyS_takeF (i := 6) rfl (by kernel_rfl) (by kernel_rfl) (by kernel_rfl) (by kernel_rfl) (Yq.of (v := .int .i64 ((vK (bmp T (l.getD i default) ((vK T (l.getD i default)) + 1)) ((msort sq l).getD i default)) - 1)) (y_sub (a := (vK (bmp T (l.getD i default) ((vK T (l.getD i default)) + 1)) ((msort sq l).getD i default))) (b := 1) (c := (vK (bmp T (l.getD i default) ((vK T (l.getD i default)) + 1)) ((msort sq l).getD i default)) - 1) rfl rfl (wI rfl (by omega) (by omega))) rfl) ?_
              refine anyS_all (rs := [9]) (by kernel_rfl) (by simp) ?_
              intro i hi; obtain rfl := List.mem_singleton.1 hi; clear hi
              refine opS_0 rfl rfl ?_
              refine e_entryStore (i := (ixK (bmp T (l.getD i default) ((vK T (l.getD i default)) + 1)) ((msort sq l).getD i default))) (k := ((msort sq l).getD i default)) (v := (vK (bmp T (l.getD i default) ((vK T (l.getD i default)) + 1)) ((msort sq l).getD i default)) - 1) (l' := (bmp (bmp T (l.getD i default) ((vK T (l.getD i default)) + 1)) ((msort sq l).getD i default) ((vK (bmp T (l.getD i default) ((vK T (l.getD i default)) + 1)) ((msort sq l).getD i default)) - 1))) rfl rfl rfl .h (ens_lt _ _) (ens_key _ _) rfl ?_
              refine ⟨.inl (by simp), ?_⟩
              refine anyS_done (by kernel_rfl) ?_
              refine blockS_n ?_
              refine thenS_n ?_
              refine wpS_region ?_
              refine s_y (v := .int .i64 (((i : Nat) : Int))) (y_move h7_10) rfl ?_
              refine s_y (v := .int .i64 ((((i + 1) : Nat) : Int))) (y_add (a := ((i : Nat) : Int)) (b := 1) (c := (((i + 1) : Nat) : Int)) rfl rfl (wI (by omega) (by omega) (by omega))) rfl ?_
              refine s_y (v := .int .i64 ((((i + 1) : Nat) : Int))) (y_assign rfl) rfl ?_
              refine wpL_nil ?_
              refine thenS_n ?_
              exact ⟨_, by omega, ⟨(i + 1), (bmp (bmp T (l.getD i default) ((vK T (l.getD i default)) + 1)) ((msort sq l).getD i default) ((vK (bmp T (l.getD i default) ((vK T (l.getD i default)) + 1)) ((msort sq l).getD i default)) - 1)), rfl, by omega, (mi_dn hMIu (by omega) rfl), rfl, h0_10, h5_10, h6_10, rfl, .p .h (.p .h (.p .h .nil))⟩⟩
        · -- number 7 first
          refine opS_0 rfl rfl ?_
          refine e_mapEntry (k := (l.getD i default)) Try.underlying79 rfl rfl .h ?_
          refine ⟨.inl (by simp), ?_⟩
          refine anyS_takeF (i := 8) rfl (by kernel_rfl) (by kernel_rfl) (by kernel_rfl) (by kernel_rfl) (Yq.of (v := .int .i64 ((((ixK T (l.getD i default)) : Nat) : Int))) (y_extract (v := .int .i64 ((((ixK T (l.getD i default)) : Nat) : Int))) rfl rfl) rfl) ?_
          refine anyS_all (rs := [5]) (by kernel_rfl) (by simp) ?_
          intro i hi; obtain rfl := List.mem_singleton.1 hi; clear hi
          refine opS_0 rfl rfl ?_
          refine OpE.y (v := .int .i64 ((vK T (l.getD i default)))) (y_lookupK (k := (l.getD i default)) (v := (vK T (l.getD i default))) Try.underlying79 rfl rfl .h (vK_ens _ _)) ?_
          refine ⟨.inl (by simp), ?_⟩
          refine anyS_takeF (i := 6) rfl (by kernel_rfl) (by kernel_rfl) (by kernel_rfl) (by kernel_rfl) (Yq.of (v := .int .i64 ((vK T (l.getD i default)) + 1)) (y_add (a := (vK T (l.getD i default))) (b := 1) (c := (vK T (l.getD i default)) + 1) rfl rfl (wI rfl (by omega) (by omega))) rfl) ?_
          refine anyS_all (rs := [9]) (by kernel_rfl) (by simp) ?_
          intro i hi; obtain rfl := List.mem_singleton.1 hi; clear hi
          refine opS_0 rfl rfl ?_
          refine e_entryStore (i := (ixK T (l.getD i default))) (k := (l.getD i default)) (v := (vK T (l.getD i default)) + 1) (l' := (bmp T (l.getD i default) ((vK T (l.getD i default)) + 1))) rfl rfl rfl .h (ens_lt _ _) (ens_key _ _) rfl ?_
          have hMIu := mi_up hMI (by omega) rfl; have hv2 := mi_bd hMIu ((msort sq l).getD i default)
          refine ⟨.inl (by simp), ?_⟩
          refine anyS_done (by kernel_rfl) ?_
          refine thenS_n ?_
          refine wpS_anyL [osl a_2 c_3 ((msort sq l).length) 4 23 ((msort sq l).flatMap recV)] [5, 6, 7, 8, 9] (by kernel_rfl) ?_
          refine anyS_take (i := 0) rfl (by kernel_rfl) (by kernel_rfl) (by kernel_rfl) (by kernel_rfl) (Yq.of (v := .map (some mp_9)) (y_move h6_10) rfl) (.p (.t (.t .h)) .nil) ?_
          refine anyS_all (rs := [1, 2]) (by kernel_rfl) (by simp) ?_
          intro i hi24; simp only [List.mem_cons, List.not_mem_nil, or_false] at hi24; rcases hi24 with rfl | rfl
          · -- number 1 first
            refine opS_0 rfl rfl ?_
            refine OpE.y (v := .slice a_2 ((msort sq l).length) c_3) (y_move h5_10) ?_
            refine ⟨.inr (.p (.t (.t .h)) .nil), ?_⟩
            refine anyS_all (rs := [2]) (by kernel_rfl) (by simp) ?_
            intro i hi; obtain rfl := List.mem_singleton.1 hi; clear hi
            refine opS_0 rfl rfl ?_
            refine OpE.y (v := .int .i64 (((i : Nat) : Int))) (y_move h7_10) ?_
            refine ⟨.inr (.p (.t (.t .h)) .nil), ?_⟩
            refine anyS_take (i := 3) rfl (by kernel_rfl) (by kernel_rfl) (by kernel_rfl) (by kernel_rfl) (Yq.of (v := .pointer (some ⟨aB a_2, aO a_2 + i * 4, none⟩)) (y_idx (o := i * 4) rfl rfl Try.underlying69 Try.sizeOf23 (oslR .h) (fl_len recV_len _) (by decide) (by omega) (by omega) (by omega)) rfl) (.p (.t (.t .h)) .nil) ?_
            refine anyS_take (i := 4) rfl (by kernel_rfl) (by kernel_rfl) (by kernel_rfl) (by kernel_rfl) (Yq.of (v := .agg #[.bool (((msort sq l).getD i default).dead), .int .i64 ((((msort sq l).getD i default).key).toInt), .int .i64 ((((msort sq l).getD i default).value).toInt), .int .i64 ((((msort sq l).getD i default).seq).toInt)]) (y_loadN (vs := recV ((msort sq l).getD i default)) rfl Try.isAgg23 Try.sizeOf23 (rdN (oslR .h) (fl_getN recV_len (msort sq l) i (by first | omega | (simp only [List.length_set, List.length_take, List.length_drop]; done) | (simp only [List.length_set, List.length_take, List.length_drop]; omega))))) rfl) (.p (.t (.t .h)) .nil) ?_
            refine anyS_all (rs := [5, 7]) (by kernel_rfl) (by simp) ?_
            intro i hi25; simp only [List.mem_cons, List.not_mem_nil, or_false] at hi25; rcases hi25 with rfl | rfl
            · -- number 5 first
              refine opS_0 rfl rfl ?_
              refine OpE.y (v := .int .i64 ((vK (bmp T (l.getD i default) ((vK T (l.getD i default)) + 1)) ((msort sq l).getD i default)))) (y_lookupK (k := ((msort sq l).getD i default)) (v := (vK (bmp T (l.getD i default) ((vK T (l.getD i default)) + 1)) ((msort sq l).getD i default))) Try.underlying79 rfl rfl .h rfl) ?_
              refine ⟨.inl (by simp), ?_⟩
              refine anyS_takeF (i := 6) rfl (by kernel_rfl) (by kernel_rfl) (by kernel_rfl) (by kernel_rfl) (Yq.of (v := .int .i64 ((vK (bmp T (l.getD i default) ((vK T (l.getD i default)) + 1)) ((msort sq l).getD i default)) - 1)) (y_sub (a := (vK (bmp T (l.getD i default) ((vK T (l.getD i default)) + 1)) ((msort sq l).getD i default))) (b := 1) (c := (vK (bmp T (l.getD i default) ((vK T (l.getD i default)) + 1)) ((msort sq l).getD i default)) - 1) rfl rfl (wI rfl (by omega) (by omega))) rfl) ?_
              refine anyS_all (rs := [7]) (by kernel_rfl) (by simp) ?_
              intro i hi; obtain rfl := List.mem_singleton.1 hi; clear hi
              refine opS_0 rfl rfl ?_
              refine e_mapEntry (k := ((msort sq l).getD i default)) Try.underlying79 rfl rfl .h ?_
              refine ⟨.inl (by simp), ?_⟩
              refine anyS_takeF (i := 8) rfl (by kernel_rfl) (by kernel_rfl) (by kernel_rfl) (by kernel_rfl) (Yq.of (v := .int .i64 ((((ixK (bmp T (l.getD i default) ((vK T (l.getD i default)) + 1)) ((msort sq l).getD i default)) : Nat) : Int))) (y_extract (v := .int .i64 ((((ixK (bmp T (l.getD i default) ((vK T (l.getD i default)) + 1)) ((msort sq l).getD i default)) : Nat) : Int))) rfl rfl) rfl) ?_
              refine anyS_all (rs := [9]) (by kernel_rfl) (by simp) ?_
              intro i hi; obtain rfl := List.mem_singleton.1 hi; clear hi
              refine opS_0 rfl rfl ?_
              refine e_entryStore (i := (ixK (bmp T (l.getD i default) ((vK T (l.getD i default)) + 1)) ((msort sq l).getD i default))) (k := ((msort sq l).getD i default)) (v := (vK (bmp T (l.getD i default) ((vK T (l.getD i default)) + 1)) ((msort sq l).getD i default)) - 1) (l' := (bmp (bmp T (l.getD i default) ((vK T (l.getD i default)) + 1)) ((msort sq l).getD i default) ((vK (bmp T (l.getD i default) ((vK T (l.getD i default)) + 1)) ((msort sq l).getD i default)) - 1))) rfl rfl rfl .h (ens_lt _ _) (ens_key _ _) rfl ?_
              refine ⟨.inl (by simp), ?_⟩
              refine anyS_done (by kernel_rfl) ?_
              refine blockS_n ?_
              refine thenS_n ?_
              refine wpS_region ?_
              refine s_y (v := .int .i64 (((i : Nat) : Int))) (y_move h7_10) rfl ?_
              refine s_y (v := .int .i64 ((((i + 1) : Nat) : Int))) (y_add (a := ((i : Nat) : Int)) (b := 1) (c := (((i + 1) : Nat) : Int)) rfl rfl (wI (by omega) (by omega) (by omega))) rfl ?_
              refine s_y (v := .int .i64 ((((i + 1) : Nat) : Int))) (y_assign rfl) rfl ?_
              refine wpL_nil ?_
              refine thenS_n ?_
              exact ⟨_, by omega, ⟨(i + 1), (bmp (bmp T (l.getD i default) ((vK T (l.getD i default)) + 1)) ((msort sq l).getD i default) ((vK (bmp T (l.getD i default) ((vK T (l.getD i default)) + 1)) ((msort sq l).getD i default)) - 1)), rfl, by omega, (mi_dn hMIu (by omega) rfl), rfl, h0_10, h5_10, h6_10, rfl, .p .h (.p .h (.p .h .nil))⟩⟩
            · -- number 7 first
              refine opS_0 rfl rfl ?_
              refine e_mapEntry (k := ((msort sq l).getD i default)) Try.underlying79 rfl rfl .h ?_
              refine ⟨.inl (by simp), ?_⟩
              refine anyS_takeF (i := 8) rfl (by kernel_rfl) (by kernel_rfl) (by kernel_rfl) (by kernel_rfl) (Yq.of (v := .int .i64 ((((ixK (bmp T (l.getD i default) ((vK T (l.getD i default)) + 1)) ((msort sq l).getD i default)) : Nat) : Int))) (y_extract (v := .int .i64 ((((ixK (bmp T (l.getD i default) ((vK T (l.getD i default)) + 1)) ((msort sq l).getD i default)) : Nat) : Int))) rfl rfl) rfl) ?_
              refine anyS_all (rs := [5]) (by kernel_rfl) (by simp) ?_
              intro i hi; obtain rfl := List.mem_singleton.1 hi; clear hi
              refine opS_0 rfl rfl ?_
              refine OpE.y (v := .int .i64 ((vK (bmp T (l.getD i default) ((vK T (l.getD i default)) + 1)) ((msort sq l).getD i default)))) (y_lookupK (k := ((msort sq l).getD i default)) (v := (vK (bmp T (l.getD i default) ((vK T (l.getD i default)) + 1)) ((msort sq l).getD i default))) Try.underlying79 rfl rfl .h (vK_ens _ _)) ?_
              refine ⟨.inl (by simp), ?_⟩
              refine anyS_takeF (i := 6) rfl (by kernel_rfl) (by kernel_rfl) (by kernel_rfl) (by kernel_rfl) (Yq.of (v := .int .i64 ((vK (bmp T (l.getD i default) ((vK T (l.getD i default)) + 1)) ((msort sq l).getD i default)) - 1)) (y_sub (a := (vK (bmp T (l.getD i default) ((vK T (l.getD i default)) + 1)) ((msort sq l).getD i default))) (b := 1) (c := (vK (bmp T (l.getD i default) ((vK T (l.getD i default)) + 1)) ((msort sq l).getD i default)) - 1) rfl rfl (wI rfl (by omega) (by omega))) rfl) ?_
              refine anyS_all (rs := [9]) (by kernel_rfl) (by simp) ?_
              intro i hi; obtain rfl := List.mem_singleton.1 hi; clear hi
              refine opS_0 rfl rfl ?_
              refine e_entryStore (i := (ixK (bmp T (l.getD i default) ((vK T (l.getD i default)) + 1)) ((msort sq l).getD i default))) (k := ((msort sq l).getD i default)) (v := (vK (bmp T (l.getD i default) ((vK T (l.getD i default)) + 1)) ((msort sq l).getD i default)) - 1) (l' := (bmp (bmp T (l.getD i default) ((vK T (l.getD i default)) + 1)) ((msort sq l).getD i default) ((vK (bmp T (l.getD i default) ((vK T (l.getD i default)) + 1)) ((msort sq l).getD i default)) - 1))) rfl rfl rfl .h (ens_lt _ _) (ens_key _ _) rfl ?_
              refine ⟨.inl (by simp), ?_⟩
              refine anyS_done (by kernel_rfl) ?_
              refine blockS_n ?_
              refine thenS_n ?_
              refine wpS_region ?_
              refine s_y (v := .int .i64 (((i : Nat) : Int))) (y_move h7_10) rfl ?_
              refine s_y (v := .int .i64 ((((i + 1) : Nat) : Int))) (y_add (a := ((i : Nat) : Int)) (b := 1) (c := (((i + 1) : Nat) : Int)) rfl rfl (wI (by omega) (by omega) (by omega))) rfl ?_
              refine s_y (v := .int .i64 ((((i + 1) : Nat) : Int))) (y_assign rfl) rfl ?_
              refine wpL_nil ?_
              refine thenS_n ?_
              exact ⟨_, by omega, ⟨(i + 1), (bmp (bmp T (l.getD i default) ((vK T (l.getD i default)) + 1)) ((msort sq l).getD i default) ((vK (bmp T (l.getD i default) ((vK T (l.getD i default)) + 1)) ((msort sq l).getD i default)) - 1)), rfl, by omega, (mi_dn hMIu (by omega) rfl), rfl, h0_10, h5_10, h6_10, rfl, .p .h (.p .h (.p .h .nil))⟩⟩
          · -- number 2 first
            refine opS_0 rfl rfl ?_
            refine OpE.y (v := .int .i64 (((i : Nat) : Int))) (y_move h7_10) ?_
            refine ⟨.inr (.p (.t (.t .h)) .nil), ?_⟩
            refine anyS_all (rs := [1]) (by kernel_rfl) (by simp) ?_
            intro i hi; obtain rfl := List.mem_singleton.1 hi; clear hi
            refine opS_0 rfl rfl ?_
            refine OpE.y (v := .slice a_2 ((msort sq l).length) c_3) (y_move h5_10) ?_
            refine ⟨.inr (.p (.t (.t .h)) .nil), ?_⟩
            refine anyS_take (i := 3) rfl (by kernel_rfl) (by kernel_rfl) (by kernel_rfl) (by kernel_rfl) (Yq.of (v := .pointer (some ⟨aB a_2, aO a_2 + i * 4, none⟩)) (y_idx (o := i * 4) rfl rfl Try.underlying69 Try.sizeOf23 (oslR .h) (fl_len recV_len _) (by decide) (by omega) (by omega) (by omega)) rfl) (.p (.t (.t .h)) .nil) ?_
            refine anyS_take (i := 4) rfl (by kernel_rfl) (by kernel_rfl) (by kernel_rfl) (by kernel_rfl) (Yq.of (v := .agg #[.bool (((msort sq l).getD i default).dead), .int .i64 ((((msort sq l).getD i default).key).toInt), .int .i64 ((((msort sq l).getD i default).value).toInt), .int .i64 ((((msort sq l).getD i default).seq).toInt)]) (y_loadN (vs := recV ((msort sq l).getD i default)) rfl Try.isAgg23 Try.sizeOf23 (rdN (oslR .h) (fl_getN recV_len (msort sq l) i (by first | omega | (simp only [List.length_set, List.length_take, List.length_drop]; done) | (simp only [List.length_set, List.length_take, List.length_drop]; omega))))) rfl) (.p (.t (.t .h)) .nil) ?_
            refine anyS_all (rs := [5, 7]) (by kernel_rfl) (by simp) ?_
            intro i hi26; simp only [List.mem_cons, List.not_mem_nil, or_false] at hi26; rcases hi26 with rfl | rfl
            · -- number 5 first
              refine opS_0 rfl rfl ?_
              refine OpE.y (v := .int .i64 ((vK (bmp T (l.getD i default) ((vK T (l.getD i default)) + 1)) ((msort sq l).getD i default)))) (y_lookupK (k := ((msort sq l).getD i default)) (v := (vK (bmp T (l.getD i default) ((vK T (l.getD i default)) + 1)) ((msort sq l).getD i default))) Try.underlying79 rfl rfl .h rfl) ?_
              refine ⟨.inl (by simp), ?_⟩
              refine anyS_takeF (i := 6) rfl (by kernel_rfl) (by kernel_rfl) (by kernel_rfl) (by kernel_rfl) (Yq.of (v := .int .i64 ((vK (bmp T (l.getD i default) ((vK T (l.getD i default)) + 1)) ((msort sq l).getD i default)) - 1)) (y_sub (a := (vK (bmp T (l.getD i default) ((vK T (l.getD i default)) + 1)) ((msort sq l).getD i default))) (b := 1) (c := (vK (bmp T (l.getD i default) ((vK T (l.getD i default)) + 1)) ((msort sq l).getD i default)) - 1) rfl rfl (wI rfl (by omega) (by omega))) rfl) ?_
              refine anyS_all (rs := [7]) (by kernel_rfl) (by simp) ?_
              intro i hi; obtain rfl := List.mem_singleton.1 hi; clear hi
              refine opS_0 rfl rfl ?_
              refine e_mapEntry (k := ((msort sq l).getD i default)) Try.underlying79 rfl rfl .h ?_
              refine ⟨.inl (by simp), ?_⟩
              refine anyS_takeF (i := 8) rfl (by kernel_rfl) (by kernel_rfl) (by kernel_rfl) (by kernel_rfl) (Yq.of (v := .int .i64 ((((ixK (bmp T (l.getD i default) ((vK T (l.getD i default)) + 1)) ((msort sq l).getD i default)) : Nat) : Int))) (y_extract (v := .int .i64 ((((ixK (bmp T (l.getD i default) ((vK T (l.getD i default)) + 1)) ((msort sq l).getD i default)) : Nat) : Int))) rfl rfl) rfl) ?_
              refine anyS_all (rs := [9]) (by kernel_rfl) (by simp) ?_
              intro i hi; obtain rfl := List.mem_singleton.1 hi; clear hi
              refine opS_0 rfl rfl ?_
              refine e_entryStore (i := (ixK (bmp T (l.getD i default) ((vK T (l.getD i default)) + 1)) ((msort sq l).getD i default))) (k := ((msort sq l).getD i default)) (v := (vK (bmp T (l.getD i default) ((vK T (l.getD i default)) + 1)) ((msort sq l).getD i default)) - 1) (l' := (bmp (bmp T (l.getD i default) ((vK T (l.getD i default)) + 1)) ((msort sq l).getD i default) ((vK (bmp T (l.getD i default) ((vK T (l.getD i default)) + 1)) ((msort sq l).getD i default)) - 1))) rfl rfl rfl .h (ens_lt _ _) (ens_key _ _) rfl ?_
              refine ⟨.inl (by simp), ?_⟩
              refine anyS_done (by kernel_rfl) ?_
              refine blockS_n ?_
              refine thenS_n ?_
              refine wpS_region ?_
              refine s_y (v := .int .i64 (((i : Nat) : Int))) (y_move h7_10) rfl ?_
              refine s_y (v := .int .i64 ((((i + 1) : Nat) : Int))) (y_add (a := ((i : Nat) : Int)) (b := 1) (c := (((i + 1) : Nat) : Int)) rfl rfl (wI (by omega) (by omega) (by omega))) rfl ?_
              refine s_y (v := .int .i64 ((((i + 1) : Nat) : Int))) (y_assign rfl) rfl ?_
              refine wpL_nil ?_
              refine thenS_n ?_
              exact ⟨_, by omega, ⟨(i + 1), (bmp (bmp T (l.getD i default) ((vK T (l.getD i default)) + 1)) ((msort sq l).getD i default) ((vK (bmp T (l.getD i default) ((vK T (l.getD i default)) + 1)) ((msort sq l).getD i default)) - 1)), rfl, by omega, (mi_dn hMIu (by omega) rfl), rfl, h0_10, h5_10, h6_10, rfl, .p .h (.p .h (.p .h .nil))⟩⟩
            · -- number 7 first
              refine opS_0 rfl rfl ?_
              refine e_mapEntry (k := ((msort sq l).getD i default)) Try.underlying79 rfl rfl .h ?_
              refine ⟨.inl (by simp), ?_⟩
              refine anyS_takeF (i := 8) rfl (by kernel_rfl) (by kernel_rfl) (by kernel_rfl) (by kernel_rfl) (Yq.of (v := .int .i64 ((((ixK (bmp T (l.getD i default) ((vK T (l.getD i default)) + 1)) ((msort sq l).getD i default)) : Nat) : Int))) (y_extract (v := .int .i64 ((((ixK (bmp T (l.getD i default) ((vK T (l.getD i default)) + 1)) ((msort sq l).getD i default)) : Nat) : Int))) rfl rfl) rfl) ?_
              refine anyS_all (rs := [5]) (by kernel_rfl) (by simp) ?_
              intro i hi; obtain rfl := List.mem_singleton.1 hi; clear hi
              refine opS_0 rfl rfl ?_
              refine OpE.y (v := .int .i64 ((vK (bmp T (l.getD i default) ((vK T (l.getD i default)) + 1)) ((msort sq l).getD i default)))) (y_lookupK (k := ((msort sq l).getD i default)) (v := (vK (bmp T (l.getD i default) ((vK T (l.getD i default)) + 1)) ((msort sq l).getD i default))) Try.underlying79 rfl rfl .h (vK_ens _ _)) ?_
              refine ⟨.inl (by simp), ?_⟩
              refine anyS_takeF (i := 6) rfl (by kernel_rfl) (by kernel_rfl) (by kernel_rfl) (by kernel_rfl) (Yq.of (v := .int .i64 ((vK (bmp T (l.getD i default) ((vK T (l.getD i default)) + 1)) ((msort sq l).getD i default)) - 1)) (y_sub (a := (vK (bmp T (l.getD i default) ((vK T (l.getD i default)) + 1)) ((msort sq l).getD i default))) (b := 1) (c := (vK (bmp T (l.getD i default) ((vK T (l.getD i default)) + 1)) ((msort sq l).getD i default)) - 1) rfl rfl (wI rfl (by omega) (by omega))) rfl) ?_
              refine anyS_all (rs := [9]) (by kernel_rfl) (by simp) ?_
              intro i hi; obtain rfl := List.mem_singleton.1 hi; clear hi
              refine opS_0 rfl rfl ?_
              refine e_entryStore (i := (ixK (bmp T (l.getD i default) ((vK T (l.getD i default)) + 1)) ((msort sq l).getD i default))) (k := ((msort sq l).getD i default)) (v := (vK (bmp T (l.getD i default) ((vK T (l.getD i default)) + 1)) ((msort sq l).getD i default)) - 1) (l' := (bmp (bmp T (l.getD i default) ((vK T (l.getD i default)) + 1)) ((msort sq l).getD i default) ((vK (bmp T (l.getD i default) ((vK T (l.getD i default)) + 1)) ((msort sq l).getD i default)) - 1))) rfl rfl rfl .h (ens_lt _ _) (ens_key _ _) rfl ?_
              refine ⟨.inl (by simp), ?_⟩
              refine anyS_done (by kernel_rfl) ?_
              refine blockS_n ?_
              refine thenS_n ?_
              refine wpS_region ?_
              refine s_y (v := .int .i64 (((i : Nat) : Int))) (y_move h7_10) rfl ?_
              refine s_y (v := .int .i64 ((((i + 1) : Nat) : Int))) (y_add (a := ((i : Nat) : Int)) (b := 1) (c := (((i + 1) : Nat) : Int)) rfl rfl (wI (by omega) (by omega) (by omega))) rfl ?_
              refine s_y (v := .int .i64 ((((i + 1) : Nat) : Int))) (y_assign rfl) rfl ?_
              refine wpL_nil ?_
              refine thenS_n ?_
              exact ⟨_, by omega, ⟨(i + 1), (bmp (bmp T (l.getD i default) ((vK T (l.getD i default)) + 1)) ((msort sq l).getD i default) ((vK (bmp T (l.getD i default) ((vK T (l.getD i default)) + 1)) ((msort sq l).getD i default)) - 1)), rfl, by omega, (mi_dn hMIu (by omega) rfl), rfl, h0_10, h5_10, h6_10, rfl, .p .h (.p .h (.p .h .nil))⟩⟩
    · -- decide (i < na) false
      have p11 := of_decide_eq_false b11
      refine wpS_exit ?_
      refine thenS_x ?_
      refine thenS_x ?_
      refine blockS_h ?_
      refine thenS_n ?_
      refine wpS_seq ?_
      refine wpS_seq ?_
      refine wpS_region ?_
      refine s_y (v := .map (some mp_9)) (y_move h6_10) rfl ?_
      refine s_e rfl ?_
      refine e_rangeK Try.underlying79 rfl .h ?_
      intro it_27
      refine wpL_nil ?_
      refine thenS_n ?_
      refine wpS_block ?_
      refine wpS_loop (fun mez ds σ L => ∃ seen : Array Nat, mez = (leftK T seen).length ∧ ds = [] ∧ σ 66 = .pointer (some ⟨it_27, 0, none⟩) ∧ Ent L [itr it_27 mp_9 T.length seen, mpk mp_9 T, osl a_5 c_6 ((msort sq (msort sq l)).length) 4 23 ((msort sq (msort sq l)).flatMap recV), osl a_2 c_3 ((msort sq l).length) 4 23 ((msort sq l).flatMap recV)]) (m0 := (leftK T #[]).length) ⟨#[], rfl, rfl, rfl, .p .h (.p .h (.p .h (.p .h .nil)))⟩ ?_
      rintro mez ds σ L ⟨seen, hm_28, rfl, h66_28, hE_28⟩
      refine wpS_ent hE_28 ?_; clear hE_28
      refine wpS_seq ?_
      refine wpS_region ?_
      refine s_e rfl ?_
      refine e_nextK (l := T) h66_28 .h .h ?_ ?_
      · intro hnx29
        refine s_y (v := .bool false) (y_extract (v := .bool false) rfl rfl) rfl ?_
        refine wpL_nil ?_
        refine thenS_n ?_
        refine wpS_seq ?_
        refine wpS_cond_f rfl ?_
        refine wpS_exit ?_
        refine thenS_x ?_
        refine thenS_x ?_
        refine blockS_h ?_
        refine thenS_n ?_
        refine wpS_seq ?_
        refine wpS_region ?_
        refine s_y (v := .bool true) (y_assign rfl) rfl ?_
        refine wpL_nil ?_
        refine thenS_n ?_
        refine wpS_ret ?_
        refine fin1 (v := .bool true) (.inr rfl) (.nil) Try.results17 rfl ?_
        exact fun w' hs => ⟨rfl, hs⟩
      · intro j30 hnx29; have hlthnx29 := leftK_push hnx29; have hjlhnx29 := (leftK_mem.1 hnx29).1
        refine s_y (v := .bool true) (y_extract (v := .bool true) rfl rfl) rfl ?_
        refine wpL_nil ?_
        refine thenS_n ?_
        refine wpS_seq ?_
        refine wpS_cond_t rfl ?_
        refine wpS_skip ?_
        refine thenS_n ?_
        refine wpS_block ?_
        refine wpS_seq ?_
        refine wpS_region ?_
        refine s_y (v := .tuple #[.agg #[.bool (((T.getD j30 default).1).dead), .int .i64 ((((T.getD j30 default).1).key).toInt), .int .i64 ((((T.getD j30 default).1).value).toInt), .int .i64 ((((T.getD j30 default).1).seq).toInt)], .int .i64 ((T.getD j30 default).2)]) (y_entryK (l := T) h66_28 .h (.t .h) (by omega)) rfl ?_
        refine s_y (v := .int .i64 ((T.getD j30 default).2)) (y_extract (v := .int .i64 ((T.getD j30 default).2)) rfl rfl) rfl ?_
        refine s_y (v := .int .i64 ((T.getD j30 default).2)) (y_assign rfl) rfl ?_
        refine wpL_nil ?_
        refine thenS_n ?_
        refine wpS_seq ?_
        refine wpS_region ?_
        refine s_y (v := .int .i64 ((T.getD j30 default).2)) (y_move rfl) rfl ?_
        refine s_y (v := .bool (decide (((T.getD j30 default).2 : Int) ≠ 0))) (y_neq (a := (T.getD j30 default).2) (b := 0) rfl rfl rfl) rfl ?_
        refine wpL_nil ?_
        refine thenS_n ?_
        refine wpS_cond_F (t := decide (((T.getD j30 default).2 : Int) ≠ 0)) rfl (decide_eq_false (fun h => h (mi_end (by assumption) (msort_perm sq l) (by omega) (by omega) (by assumption)))) ?_
        refine wpS_skip ?_
        refine blockS_n ?_
        refine thenS_n ?_
        exact ⟨_, by omega, ⟨(seen.push j30), rfl, rfl, h66_28, .p .h (.p .h (.p .h (.p .h .nil)))⟩⟩

end Go.Proofs.Ytldkjjnjdjfipaa
